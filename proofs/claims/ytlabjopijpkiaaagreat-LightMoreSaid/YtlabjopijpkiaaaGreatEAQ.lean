import Derived.Test.YtlabjopijpkiaaaGreatEAP
set_option maxHeartbeats 16000000
set_option maxRecDepth 20000
set_option linter.unusedSectionVars false
set_option linter.unusedSimpArgs false
set_option linter.unusedVariables false
namespace Go.TL
open Go.Conc Go.Proofs
open Go.ConcN (sumTo upd sumTo_upd upd_ne upd_same sumTo_congr le_sumTo)
structure j8 (x:a7) (s m:Nat) (sp:Spec):Prop where
 rel:x.rel=false
 aR:x.aR=λ_=>none
 spec:x.spec s=some sp
 a4:sp.a4=some m
 top:sp.top<7
 still:∀bs,bs≠s->oa (x.tok bs)
theorem j8.seq {x:a7} {s m:Nat} {sp:Spec} (h:j8 x s m sp):∀t v d,@Seq fi (one (bB x s t v d)):=λt v d=>@Seq.vv fi _ trivial h.rel h.aR
theorem cG.Z' [bq] {P:Program} {Q:Value->Prop} {mn:Bool} {x:a7} {c b:Frame} {rest:List Frame} {H:Γ} {t:Array Value} {ops:Array Oper} {k:List Item} {fn:Func} (δ:Seq (one x)) (hb:b.mode=.run) (cv:b.roundOf=none) (e6:b.defers=[]) (ht:b.kind=.normal) (bR:P.funcs[b.fn]?=some fn) (fs:fn.results=#[])
  (h:cG P Q mn x (c.finish (.tuple #[])) rest H):cG P Q mn x (aD b t (.inRegion ops []::.code .ret::k)) (c::rest) H:=by
 refine aV.bL (x:=one x) δ hb (.ret δ hb cv (.back δ rfl e6 (.inl ht) bR ?_)) x rfl;rw[results_none fs];exact χ.pure' (λy Μ=>by cases Μ;exact h)
abbrev ptr (b o:Nat):Value:=.pointer (some ⟨b,o,none⟩)
section
variable {Q:Value->Prop} {mn:Bool} {x:a7} {c:Frame} {rest:List Frame} {S:aO} {B:a0} {σ:ac} {H:Γ} {s m k:Nat} {sp:Spec} {v:Option (Nat×aW)}
def tV (Q:Value->Prop) (mn:Bool) (x:a7) (c:Frame) (rest:List Frame) (S:aO) (H:Γ) (s k:Nat) (sp:Spec):Prop:=
 ∀(aJ:aO) (H':Γ) (L:List Nat) (E:Γ),Ext S [] H aJ [] H'->Holds aJ [] [] H'->sp.av L E->Apart H' E->(L.Nodup/\k∉L/\∃w,Fits H' w/\Fits E w)->cG Tryz.prog Q mn (bB x s (.ch k (.dA L) .work) none 0) (c.finish (.tuple #[])) rest (join H' E)
def PD (Q:Value->Prop) (mn:Bool) (x:a7) (s m k:Nat) (sp:Spec):Prop:=∀(c:Frame) (rest:List Frame) (S:aO) (B:a0) (σ:ac) (H:Γ) (v:Option (Nat×aW)),Holds S B σ H->tV Q mn x c rest S H s k sp->
 cG Tryz.prog Q mn (bB x s (.ch k (.act false) .work) v 1) (Frame.enter Tryz.prog 213 #[ptr m 0] .normal) (c::rest) H
theorem aα (ε:j8 x s m sp) (Δ:Holds S B σ H) (aβ:PD Q mn x s m k sp)
  (Ν:tV Q mn x c rest S H s k sp):cG Tryz.prog Q mn (bB x s (.ch k .idle .work) v 0) (Frame.enter Tryz.prog 175 #[ptr m 0] .normal) (c::rest) H:=by
 letI:bq:=fi;have δ:=ε.seq;refine V.rk (z:=one _) (vs:=[ptr m 0]) Tryz.func175 rfl Δ (by simp[Tryz.ntmps175]) ?_ _ rfl;refine V.cl (δ _ _ _) ?_;refine da ?_;refine W.cC (.stop ?_);refine V.disable (δ _ _ _).here ⟨⟨rfl,rfl,by simp[Frame.enter],rfl⟩,BF,⟨_,rfl⟩,rfl,rfl,rfl⟩ ?_;rw[BB];refine V.cl (δ _ _ _) ?_;refine W.bL ?_;refine da ?_;refine W.cC ?_;refine fM [0,1,2] [3] ?_;refine W.stop ?_;refine V.Ft (δ _ _ _).here (Nat.succ_pos _) (sp:=sp) ε.spec (by rw[cm];exact id) ε.a4 ⟨⟨rfl,rfl,by simp[Frame.enter],rfl⟩,FA,⟨_,rfl⟩,rfl,rfl,rfl⟩ (λφ υ ξ hv=>?_) (λφ υ ξ hv=>?_)
 ·refine .inr ⟨.ch k (.act false) .work,by rw[cm];exact .Tl,λcE _=>?_⟩;rw[hJ];refine V.cl (δ _ _ _) ?_;refine W.bL ?_;refine da ?_;refine ay rfl ?_;refine da ?_;refine W.cC ?_;refine fM [0] [1] ?_;refine W.stop ?_;refine V.call (δ _ _ _) ⟨rfl,rfl,by simp[Frame.enter],rfl⟩ rfl rfl rfl ⟨_,Tryz.func213,rfl,rfl⟩ λbS b1 H1 t1 p8 ν ω hv=>?_;obtain rfl:=nQ (l:=[ptr m 0]) hv;rintro y rfl;refine aβ _ _ bS b1 _ H1 _ ω.holds λc8 bN L E mb jX cV iR xw=>?_;rw[jl rfl];refine cG.leave0 (δ _ _ _) rfl rfl rfl rfl Tryz.func175 rfl ?_;obtain rfl:b1=[]:=dO.1 ω.holds.len;exact Ν c8 bN L E (ν.ext.trans mb) jX cV iR xw
 ·have ao:υ.cr=0/\υ.sv=0/\υ.wk=0/\υ.nw=0:=by simp only[mwd] at hv;omega
  refine⟨{υ with cr:=1},.ch k .own .work,by simp[mwd];omega,rfl,⟨rfl,rfl,rfl⟩,by rw[cm];exact .Tk ao.1 ao.2.1 ao.2.2.1 ao.2.2.2,λcE _=>?_⟩;rw[hJ];refine V.cl (δ _ _ _) ?_;refine W.bL ?_;refine da ?_;refine aC rfl ?_;refine da ?_;refine aC rfl ?_;refine da ?_;refine W.cC (.stop ?_);refine V.enable (δ _ _ _).here (Nat.succ_pos _) ⟨⟨rfl,rfl,by simp[Frame.enter],rfl⟩,vx,⟨_,rfl⟩,rfl,rfl,rfl⟩ ?_;rw[BC];refine V.cl (δ _ _ _) ?_;refine W.bL ?_;refine da ?_;refine W.cC ?_;refine fM [0] [1,2] ?_;refine W.stop ?_;refine V.conv (δ _ _ _).here (sp:=sp) ε.spec (by rw[cm];exact id) ⟨rfl,rfl,by simp[Frame.enter],rfl⟩ rfl rfl rfl Jw vy Jx rfl (λυ w Β bJ=>⟨_,bJ.dZ (by rw[Β];exact ε.a4)⟩) (λφ υ ξ=>?_);unfold jb;rw[ln];refine V.De ε.rel rfl (sp:=sp) ε.spec ε.a4 cm ⟨⟨rfl,rfl,by simp[Frame.enter],rfl⟩,Fz,⟨_,rfl⟩,rfl,rfl,rfl⟩ λbS b1 H1 t1 L E ν ω cV iR xw=>?_;rw[hJ];obtain rfl:b1=[]:=dO.1 ω.holds.len;refine cG.Z' (δ _ _ _) rfl rfl rfl rfl Tryz.func175 rfl ?_;exact Ν bS H1 L E ν.ext ω.holds cV iR xw
end
def eh:List Nat->Code->Code
 | [],c=>c
 | 0::l,.seq a _=>eh l a
 | _::l,.seq _ b=>eh l b
 | 0::l,.cond _ a _=>eh l a
 | _::l,.cond _ _ b=>eh l b
 | _::l,.block _ c=>eh l c
 | _::l,.loop c=>eh l c
 | _,c=>c
noncomputable def rq:Code:=Tryz.f213.body.getD .skip
noncomputable def nS:Code:=eh [1,1,1,1,1,0,0,0] rq
noncomputable def rr:Code:=eh [0,1] nS
noncomputable def sE:Code:=eh [1,1,1,1,1] rr
noncomputable def nT:Code:=eh [1,0] sE
noncomputable def BG:Code:=eh [1,1,1,1,1,1] rq
noncomputable def mc:List Item:=[.inLoop nS,.inBlock 0,.code BG]
abbrev kO (Q:Value->Prop) (mn:Bool) (x:a7) (c:Frame) (rest:List Frame) (S:aO) (H:Γ) (s m:Nat) (t:Tok) (v:Option (Nat×aW)) (d:Nat) (K:List Item) (env:ab):Prop:=
 V Tryz.prog Q mn (one (bB x s t v d)) (Frame.enter Tryz.prog 213 #[ptr m 0] .normal) (c::rest) 139 ⟨S,[],H,[],0⟩ K env []
def dd (m:Nat) (w:Int) (aw st:Bool) (it τ:Int):ab:=[(0,.z (ptr m 0)),(2,.z (.int .i64 τ)),(3,.z (.bool st)),(4,.z (.bool aw)),(5,.z (.int .i64 it)),(6,.z (.int .i32 w))]
def ql (a b c n:Nat) (aw st:Bool):Int:=
 if a=0/\c=0 then hK 1 (if aw then 0 else b) 0 n else hK a (if aw then 0 else b) (if st=true/\a=1 then 1 else c) (n+1)
section
variable {Q:Value->Prop} {mn:Bool} {x:a7} {c:Frame} {rest:List Frame} {S:aO} {B:a0} {σ:ac} {H:Γ} {s m k:Nat} {sp:Spec} {v:Option (Nat×aW)} {t:Tok}
theorem aγ (ε:j8 x s m sp) {a b ed n:Nat} {aw st:Bool} {it τ:Int} (ν:a<2) (hb:b<2) (iS:ed<2) (Θ:n<7) (aδ:aw=true->ed=0/\b=1) (cD:st=true->aw=true)
  (hC:kO Q mn x c rest S H s m t v 1 (.code (eh [0] sE)::.code (eh [1] sE)::.inBlock 1::mc) (dd m (hK a b ed n) aw st it τ++[(7,.z (.int .i32 (ql a b ed n aw st)))])) :
  kO Q mn x c rest S H s m t v 1 (.code rr::.inBlock 1::mc) (dd m (hK a b ed n) aw st it τ):=by
 letI:bq:=fi;have δ:=ε.seq;have hR:(a=0\/a=1)/\(ed=0\/ed=1):=J;have cR:=Jt a ν b hb ed iS n J;have fy:=Js a ν b hb ed iS n J;have Ζ:=ZW a ν b hb ed iS n J;have dR:=ZX a ν b hb ed iS n J;have vz:=Z0 a ν b hb ed iS n Θ;refine V.cl (δ _ _ _) ?_;unfold rr nS rq;cases aw with
 | false=>
  have ξ:st=false:=by cases st<;>simp_all
  subst ξ;rcases hR with⟨rfl|rfl,rfl|rfl⟩
  ·(repeat (first|apply gW|apply wb|apply hY|apply wd|refine aC rfl ?_|refine ay rfl ?_|(refine dt λΚ κ=>?_;simp;(repeat (rw[ah];simp[dd,cR,fy,dR]));apply κ)));exact W.forget _ (by simp[dd,ql]) (.stop hC)
  ·(repeat (first|apply gW|apply wb|apply hY|apply wd|refine aC rfl ?_|refine ay rfl ?_|(refine dt λΚ κ=>?_;simp;(repeat (rw[ah];simp[dd,cR,fy,vz]));apply κ)));exact W.forget _ (by simp[dd,ql]) (.stop hC)
  ·(repeat (first|apply gW|apply wb|apply hY|apply wd|refine aC rfl ?_|refine ay rfl ?_|(refine dt λΚ κ=>?_;simp;(repeat (rw[ah];simp[dd,cR,fy,dR,vz]));apply κ)));exact W.forget _ (by simp[dd,ql]) (.stop hC)
  ·(repeat (first|apply gW|apply wb|apply hY|apply wd|refine aC rfl ?_|refine ay rfl ?_|(refine dt λΚ κ=>?_;simp;(repeat (rw[ah];simp[dd,cR,fy,vz]));apply κ)));exact W.forget _ (by simp[dd,ql]) (.stop hC)
 | true=>
  obtain⟨rfl,rfl⟩:=aδ rfl;rcases hR with⟨rfl|rfl,-⟩
  ·have dG:=Fy 1 J 1 J 0 J n J
   have p2:=Ju 1 J 1 J 0 J n J;cases st
   ·(repeat (first|apply gW|apply wb|apply hY|apply wd|refine aC rfl ?_|refine ay rfl ?_|(refine dt λΚ κ=>?_;simp;(repeat (rw[ah];simp[dd,cR,fy,dR,dG,p2]));apply κ)));exact W.forget _ (by simp[dd,ql]) (.stop hC)
   ·(repeat (first|apply gW|apply wb|apply hY|apply wd|refine aC rfl ?_|refine ay rfl ?_|(refine dt λΚ κ=>?_;simp;(repeat (rw[ah];simp[dd,cR,fy,Ζ,dR,dG,p2]));apply κ)));exact W.forget _ (by simp[dd,ql]) (.stop hC)
  ·cases st
   ·have dG:=Fy 1 J 1 J 0 J (n+1) J
    have p2:=Ju 1 J 1 J 0 J (n+1) J;(repeat (first|apply gW|apply wb|apply hY|apply wd|refine aC rfl ?_|refine ay rfl ?_|(refine dt λΚ κ=>?_;simp;(repeat (rw[ah];simp[dd,cR,fy,dR,vz,dG,p2]));apply κ)));exact W.forget _ (by simp[dd,ql]) (.stop hC)
   ·have iM:=ZZ 1 J 1 J 0 J (n+1) J
    have dG:=Fy 1 J 1 J 1 J (n+1) J
    have p2:=Ju 1 J 1 J 1 J (n+1) J;(repeat (first|apply gW|apply wb|apply hY|apply wd|refine aC rfl ?_|refine ay rfl ?_|(refine dt λΚ κ=>?_;simp;(repeat (rw[ah];simp[dd,cR,fy,Ζ,dR,vz,iM,dG,p2]));apply κ)));exact W.forget _ (by simp[dd,ql]) (.stop hC)
theorem PE (ε:j8 x s m sp) (Ν:tV Q mn x c rest S H s k sp) {env:ab} (ao:a' env 0=.z (ptr m 0)):kO Q mn x c rest S H s m (.ch k .own .work) v 1 [.code BG] env:=by
 letI:bq:=fi;have δ:=ε.seq;refine V.cl (δ _ _ _) ?_;unfold BG rq;refine aC rfl ?_;refine da ?_;refine W.cC (.stop ?_);refine V.enable (δ _ _ _).here (Nat.succ_pos _) ⟨⟨rfl,rfl,by simp[Frame.enter],rfl⟩,vx,⟨_,rfl⟩,rfl,rfl,rfl⟩ ?_;rw[BC];refine V.cl (δ _ _ _) ?_;refine W.bL ?_;refine da ?_;refine W.cC ?_;refine W.part (A:=[]) Φ [0] [1,2] rfl λΚ κ=>?_;simp;(repeat (rw[ah];simp[ao]));apply κ;refine W.stop ?_;refine V.conv (δ _ _ _).here (sp:=sp) ε.spec (by rw[cm];exact id) ⟨rfl,rfl,by simp[Frame.enter],rfl⟩ rfl rfl rfl Jw vy Jx rfl (λυ w Β bJ=>⟨_,bJ.dZ (by rw[Β];exact ε.a4)⟩) (λφ υ ξ=>?_);unfold jb;rw[ln];refine V.De ε.rel rfl (sp:=sp) ε.spec ε.a4 cm ⟨⟨rfl,rfl,by simp[Frame.enter],rfl⟩,Fz,⟨_,rfl⟩,rfl,rfl,rfl⟩ λbS b1 H1 t1 L E ν ω cV iR xw=>?_;rw[hJ];obtain rfl:b1=[]:=dO.1 ω.holds.len;refine cG.leave0 (δ _ _ _) rfl rfl rfl rfl Tryz.func213 rfl ?_;exact Ν bS H1 L E ν.ext ω.holds cV iR xw
end
section
variable {Q:Value->Prop} {mn:Bool} {x:a7} {c:Frame} {rest:List Frame} {S:aO} {B:a0} {σ:ac} {H:Γ} {s m k:Nat} {sp:Spec} {v:Option (Nat×aW)} {t:Tok}
theorem FB:(Tryz.prog.funcs[213]?).any (·.norace)=true:=by kernel_rfl
theorem PF:(Tryz.prog.funcs[245]?).any (·.norace)=true:=by kernel_rfl
def BH (Q:Value->Prop) (mn:Bool) (x:a7) (c:Frame) (rest:List Frame) (S:aO) (H:Γ) (s m k:Nat) (sp:Spec) (φ:Nat):Prop:=
 ∀(cE:Nat) (υ:aW) (aw st:Bool) (it τ:Int),cE<φ->υ.toSpec=sp->tT υ (.ch k (.act aw) .work)->(st=true->aw=true)->0<=it->it<=4->kO Q mn x c rest S H s m (.ch k (.act aw) .work) (some (cE,υ)) 1 mc (dd m (mwd υ) aw st it τ)
theorem PG {υ:aW} {aw:Bool} (h:tT υ (.ch k (.act aw) .work)):aw=true->υ.sv=0/\υ.wk=1:=λe=>h.CN (by rw[e];rfl)
theorem aε (ε:j8 x s m sp) (Ν:tV Q mn x c rest S H s k sp) {φ:Nat} (Α:BH Q mn x c rest S H s m k sp φ) {hp:Nat} {md:aW} (ao:hp<φ) {st:Bool} {τ:Int} :
  kO Q mn x c rest S H s m (.ch k .wk .work) (some (hp,md)) 1 (.code (eh [1,1,1,1,1] nT)::.inBlock 1::mc) [(0,.z (ptr m 0)),(2,.z (.int .i64 τ)),(3,.z (.bool st))]:=by
 letI:bq:=fi;have δ:=ε.seq;refine V.cl (δ _ _ _) ?_;unfold nT sE rr nS rq;refine da ?_;refine W.cC ?_;refine fM [0,1,2] [3,4] ?_;refine W.stop ?_;refine V.y9 (δ _ _ _).here (sp:=sp) ε.spec (by rw[cm];exact id) ⟨rfl,rfl,by simp[Frame.enter],rfl⟩ rfl rfl rfl y' rfl FB mwd (λυ w Β bJ=>bJ.dZ (by rw[Β];exact ε.a4)) (λhL υ ξ=>.inr ?_);have ψ:=ξ.j7.oc;rw[cm] at ψ;have hv:=ξ.view hp md qj;have PH:=ψ.zS rfl;have hk:υ.top<7:=by have:=ε.top;rw[show υ.top=sp.top by rw[<-ξ.spec]];exact this
 have Θ:=ψ.nw
 have π:=ψ.cr;have hw:=ψ.wk;have rf:=ψ.sv
 have cR:=Jt υ.cr J υ.wk J υ.sv J υ.nw J
 have a8:=ZU υ.cr J υ.wk J υ.sv J υ.nw J
 have m4:=Jv υ.cr J υ.wk J υ.sv J υ.nw J;rw[<-qk] at cR a8 m4;rcases(show υ.sv=0\/υ.sv=1 by omega) with oD|oD
 ·refine⟨.ch k (.act true) .work,by rw[cm];exact .norm oD,λcE eS=>?_⟩;rw[hJ];rw[oD] at cR;refine V.cl (δ _ _ _) ?_;refine W.part (A:=[]) Φ [4] [] rfl λΚ κ=>?_;(try simp);(repeat (rw[ah];simp));(try simp);apply κ;refine W.bL ?_;refine ij cR ?_;refine W.forget (dd m (mwd υ) true st 0 τ) (by simp[dd]) (.stop ?_);exact Α cE υ true st 0 τ J ξ.spec ⟨ψ.cr,ψ.wk,ψ.sv,ψ.dm,ψ.nw,λ_=>⟨oD,PH.1 oD⟩,λh=>(by cases h),λh=>(by cases h),λh=>(by cases h)⟩ (λ_=>rfl) J J
 ·obtain⟨aa,ai,aZ⟩:=PH.2 oD;refine⟨.ch k .hw .work,by rw[cm];exact .hand oD,λcE eS=>?_⟩;rw[hJ];rw[oD] at cR;rw[aa,ai] at a8;have bx:¬υ.nw=0:=J;have PI:IntKind.i32.wrap (-11)=-11:=br;have fin:∀(w:Option (Nat×aW)) (env:ab),a' env 0=.z (ptr m 0)->kO Q mn x c rest S H s m (.ch k .own .work) w 1 [.code BG] env:=λw env h=>PE ε Ν h;have add:∀(rN:Bool) (env:ab),a' env 0=.z (ptr m 0)->a' env 9=.z (.int .i32 (if rN then -11 else -7))->kO Q mn x c rest S H s m (.ch k .hw .work) (some (cE,υ)) 1 (.code (eh [1,1,1,1,1,1,0,1,0,1,1,1,0] nT)::.code (eh [1,1,1,1,1,1,0,1,0,1,1,1,1] nT)::.code (eh [1,1,1,1,1,1,1] nT)::.inBlock 1::mc) env:=λrN env ao uH=>by
   refine V.cl (δ _ _ _) ?_;unfold nT sE rr nS rq;refine da ?_;refine W.cC ?_;refine W.part (A:=[]) Φ [0,1,2,3] [4] rfl λΚ κ=>?_;(try simp);(repeat (rw[ah];simp[ao,uH]));(try simp[ao,uH]);apply κ;refine W.stop ?_;refine V.Pj (δ _ _ _).here (Nat.succ_pos _) (sp:=sp) ε.spec (by rw[cm];exact id) ε.a4 (d:=if rN then -11 else -7) ⟨⟨rfl,rfl,by simp[Frame.enter],rfl⟩,Pw,⟨_,rfl⟩,rfl,rfl,rfl⟩ (λiG gk de=>?_);have fl:=de.j7.oc;rw[cm] at fl;obtain⟨f1,f2,f3,f4⟩:=fl.hw rfl;have mβ:gk.top<7:=by have:=ε.top;rw[show gk.top=sp.top by rw[<-de.spec]];exact this
   have Bm:=fl.nw;refine⟨{gk with cr:=1,nw:=gk.nw-1,sv:=if rN then 0 else 1},.ch k .own .work,?_,rfl,⟨rfl,rfl,rfl⟩,by rw[cm];exact .hacq rN,λza _=>?_⟩
   ·cases rN<;>simp[mwd,IntKind.wrap_i32,f1,f2,f3]<;>omega
   ·rw[hJ];refine V.cl (δ _ _ _) ?_;refine W.bL ?_;refine da ?_;refine W.exit rfl (.stop ?_);refine fin _ _ ?_;simp[ao]
  refine V.cl (δ _ _ _) ?_;refine W.part (A:=[]) Φ [4] [] rfl λΚ κ=>?_;(try simp);(repeat (rw[ah];simp));(try simp);apply κ;refine W.bL ?_;cases st with
  | false=>
   refine ij (ς cR (ς a8 (ς m4 (ς bx PI)))) ?_;exact .stop (add true _ rfl rfl)
  | true=>
   by_cases U:υ.nw=1
   ·refine ij (ς cR (ς a8 (ς m4 (ς bx (ς U PI))))) ?_;exact .stop (add true _ rfl rfl)
   ·have yj:¬(υ.nw:Int)=1:=J
    refine ij (ς cR (ς a8 (ς m4 (ς bx (ς U yj))))) ?_;exact .stop (add false _ rfl rfl)
theorem aζ (ε:j8 x s m sp) (Ν:tV Q mn x c rest S H s k sp) {φ:Nat} (Α:BH Q mn x c rest S H s m k sp φ) {hp:Nat} {md:aW} (ao:hp<φ) {st y:Bool} {τ:Int} :
  kO Q mn x c rest S H s m (.ch k .q .work) (some (hp,md)) 1 (.code (eh [1,1,1,0] nT)::.code (eh [1,1,1,1] nT)::.inBlock 1::mc) [(0,.z (ptr m 0)),(2,.z (.int .i64 τ)),(3,.z (.bool st)),(8,.z (.bool y))]:=by
 letI:bq:=fi;have δ:=ε.seq;have next:∀(hL:Nat) (gx:aW) (st:Bool),hL<φ->kO Q mn x c rest S H s m (.ch k .wk .work) (some (hL,gx)) 1 (.code (eh [1,1,1,1,1] nT)::.inBlock 1::mc) [(0,.z (ptr m 0)),(2,.z (.int .i64 τ)),(3,.z (.bool st))]:=λhL gx st U=>aε ε Ν Α U
 refine V.cl (δ _ _ _) ?_;unfold nT sE rr nS rq;refine da ?_;refine W.cC ?_;refine fM [0,1,2,3] [4] ?_;refine W.stop ?_;refine V.ZA (δ _ _ _).here (sp:=sp) ε.spec (by rw[cm];exact id) ε.a4 (vs:=[ptr m 1,.bool y,.int .i64 2]) rfl (λbs jS=>by rw[BD jS];exact ε.still bs jS) ⟨⟨rfl,rfl,by simp[Frame.enter],rfl⟩,Z7,⟨_,rfl⟩,rfl,rfl,rfl⟩ (λhL υ ξ h=>by rw[cm];exact h) (λhL υ ξ h=>?_);have hv:=ξ.view hp md qj;refine⟨{υ with dm:=υ.dm-1},.ch k .wk .work,rfl,rfl,⟨rfl,rfl,rfl⟩,by rw[cm];exact .take h,λiG eS=>?_⟩;rw[hJ];refine V.cl (δ _ _ _) ?_;refine W.bL ?_;cases st with
 | true=>
  first|apply gW|apply wb|apply hY|apply wd
  refine dt λΚ κ=>?_;(try simp);(repeat (rw[ah];simp));(try simp);apply κ;refine W.forget [(0,.z (ptr m 0)),(2,.z (.int .i64 τ)),(3,.z (.bool true))] η (.stop ?_);exact next iG _ true J
 | false=>
  first|apply gW|apply wb|apply hY|apply wd
  refine W.cC ?_;refine fM [0,1] [2,3,4,5,6,7] ?_;refine W.stop ?_;refine V.nano (δ _ _ _) (vs:=[]) ⟨⟨rfl,rfl,by simp[Frame.enter],rfl⟩,Pz,⟨_,rfl⟩,rfl,rfl,rfl⟩ PF λfb=>?_;refine V.cl (δ _ _ _) ?_;refine W.part (A:=[]) Φ [3,4,5,6,7] [] rfl λΚ κ=>?_;(try simp);(repeat (rw[ah];simp));(try simp);apply κ;refine W.bL ?_;refine W.forget [(0,.z (ptr m 0)),(2,.z (.int .i64 τ)),(3,.z (.bool (decide (1000000<IntKind.i64.wrap (fb-τ)))))] η (.stop ?_);exact next iG _ _ J
theorem aη (ε:j8 x s m sp) (Ν:tV Q mn x c rest S H s k sp) {φ:Nat} (Α:BH Q mn x c rest S H s m k sp φ) {hp:Nat} {md:aW} (ao:hp<φ) {w:Int} {aw st:Bool} {it τ:Int} (ax:¬eG .i32 w 5=0) :
  kO Q mn x c rest S H s m (.ch k .q .work) (some (hp,md)) 1 (.code nT::.inBlock 1::mc) (dd m w aw st it τ):=by
 letI:bq:=fi;have δ:=ε.seq;have next:∀(τ:Int) (y:Bool),kO Q mn x c rest S H s m (.ch k .q .work) (some (hp,md)) 1 (.code (eh [1,1,1,0] nT)::.code (eh [1,1,1,1] nT)::.inBlock 1::mc) [(0,.z (ptr m 0)),(2,.z (.int .i64 τ)),(3,.z (.bool st)),(8,.z (.bool y))]:=λτ y=>aζ ε Ν Α ao
 refine V.cl (δ _ _ _) ?_;unfold nT sE rr nS rq;by_cases h:τ=0
 ·subst h;(repeat (first|apply gW|apply wb|apply hY|apply wd|refine aC rfl ?_|refine ay rfl ?_|(refine dt λΚ κ=>?_;simp;(repeat (rw[ah];simp[dd,ax]));apply κ)));refine W.cC (.stop ?_);refine V.nano (δ _ _ _) (vs:=[]) ⟨⟨rfl,rfl,by simp[Frame.enter],rfl⟩,Pz,⟨_,rfl⟩,rfl,rfl,rfl⟩ PF λfb=>?_;refine V.cl (δ _ _ _) ?_;refine W.part (A:=[]) Φ [1] [] rfl λΚ κ=>?_;(try simp);(repeat (rw[ah];simp));(try simp);apply κ;refine W.bL ?_
  first|apply gW|apply wb|apply hY|apply wd
  refine W.forget [(0,.z (ptr m 0)),(2,.z (.int .i64 fb)),(3,.z (.bool st)),(8,.z (.bool false))] η (.stop ?_);exact next fb false
 ·(repeat (first|apply gW|apply wb|apply hY|apply wd|refine aC rfl ?_|refine ay rfl ?_|(refine dt λΚ κ=>?_;simp;(repeat (rw[ah];simp[dd,ax,h]));apply κ)));refine W.forget [(0,.z (ptr m 0)),(2,.z (.int .i64 τ)),(3,.z (.bool st)),(8,.z (.bool true))] (by simp[h]) (.stop ?_);exact next τ true
end
theorem PJ {a b:aW} {t u:Tok} (ν:tT a t) (hb:tT b u) (h:mwd a=mwd b):a.cr=b.cr/\a.wk=b.wk/\a.sv=b.sv/\a.nw=b.nw:=by
 have:=ν.cr;have:=ν.wk;have:=ν.sv;have:=hb.cr;have:=hb.wk;have:=hb.sv;simp only[mwd] at h;omega
section
variable {Q:Value->Prop} {mn:Bool} {x:a7} {c:Frame} {rest:List Frame} {S:aO} {B:a0} {σ:ac} {H:Γ} {s m k:Nat} {sp:Spec} {v:Option (Nat×aW)} {t:Tok}
theorem BI (ε:j8 x s m sp) {υ:aW} (h:υ.toSpec=sp):υ.top<7:=by have:=ε.top;rw[show υ.top=sp.top by rw[<-h]];exact this
theorem aθ (ε:j8 x s m sp) (Ν:tV Q mn x c rest S H s k sp) {φ:Nat} {υ:aW} (Α:BH Q mn x c rest S H s m k sp φ) (Β:υ.toSpec=sp) {aw st:Bool} {it τ:Int} (ψ:tT υ (.ch k (.act aw) .work)) (cD:st=true->aw=true) (lS:0<=it) (FC:it<=4) :
  kO Q mn x c rest S H s m (.ch k (.act aw) .work) (some (φ,υ)) 1 (.code (eh [0] sE)::.code (eh [1] sE)::.inBlock 1::mc) (dd m (mwd υ) aw st it τ++[(7,.z (.int .i32 (ql υ.cr υ.wk υ.sv υ.nw aw st)))]):=by
 letI:bq:=fi;have δ:=ε.seq;have uT:=PG ψ;have hk:=BI ε Β;have π:=ψ.cr;have hw:=ψ.wk;have rf:=ψ.sv;have Θ:=ψ.nw;have fy:=Js υ.cr J υ.wk J υ.sv J υ.nw J;rw[<-qk] at fy;have fin:∀(w:Option (Nat×aW)) (env:ab),a' env 0=.z (ptr m 0)->kO Q mn x c rest S H s m (.ch k .own .work) w 1 [.code BG] env:=λw env h=>PE ε Ν h;have tail:∀(hp:Nat) (md:aW),hp<φ->¬eG .i32 (mwd υ) 5=0->kO Q mn x c rest S H s m (.ch k .q .work) (some (hp,md)) 1 (.code nT::.inBlock 1::mc) (dd m (mwd υ) aw st it τ):=λhp md ao ax=>aη ε Ν Α ao ax;refine V.cl (δ _ _ _) ?_;unfold sE rr nS rq;refine W.cC ?_;refine W.part (A:=[]) Φ [0,1,2,3,4] [5] rfl λΚ κ=>?_;(try simp);(repeat (rw[ah];simp[dd]));(try simp[dd]);apply κ;refine W.stop ?_;refine V.Ft (δ _ _ _).here (Nat.succ_pos _) (sp:=sp) ε.spec (by rw[cm];exact id) ε.a4 ⟨⟨rfl,rfl,by simp[Frame.enter],rfl⟩,FA,⟨_,rfl⟩,rfl,rfl,rfl⟩ (λhL gx ξ hv=>.inl ?_) (λhL gx ξ hv=>?_)
 ·
  have qW:=ξ.view φ υ qj
  have U:hL<φ:=by
   rcases Nat.lt_or_ge hL φ with h|h
   ·exact h
   ·exact absurd (by rw[qW.2 J]) hv
  unfold jb;rw[ln];refine V.cl (δ _ _ _) ?_;refine W.bL ?_;refine da ?_;refine ay rfl ?_;refine W.cC ?_;refine fM [0,1,2] [3,4] ?_;refine W.stop ?_;refine V.y9 (δ _ _ _).here (sp:=sp) ε.spec (by rw[cm];exact id) ⟨rfl,rfl,by simp[Frame.enter],rfl⟩ rfl rfl rfl y' rfl FB mwd (λυ w Β bJ=>bJ.dZ (by rw[Β];exact ε.a4)) (λiG gk de=>.inl ?_);have yU:=de.view hL gx qj;have fl:=de.j7.oc;rw[cm] at fl;unfold jb;rw[ln];refine V.cl (δ _ _ _) ?_;refine W.part (A:=[]) Φ [4] [] rfl λΚ κ=>?_;(try simp);(repeat (rw[ah];simp));(try simp);apply κ;refine W.bL ?_;refine W.inBlock ?_;refine W.forget (dd m (mwd gk) aw st it τ) (by simp[dd]) (.stop ?_);exact Α iG gk aw st it τ J de.spec fl cD lS FC
 ·have qW:=ξ.view φ υ qj
  have jC:=ξ.j7.oc;rw[cm] at jC;obtain⟨aa,ai,aZ,cn⟩:=PJ jC ψ hv;by_cases BJ:υ.cr=0/\υ.sv=0
  ·refine⟨{gx with cr:=1,wk:=if aw then 0 else gx.wk},.ch k .own .work,?_,rfl,⟨rfl,rfl,rfl⟩,by rw[cm];exact .acq J J,λiG eS=>?_⟩
   ·simp[ql,qk,ai,aZ,cn,BJ.1,BJ.2]
   ·rw[hJ];rw[BJ.1,BJ.2] at fy;refine V.cl (δ _ _ _) ?_;refine W.bL ?_;refine da ?_;refine aC rfl ?_;refine ij fy ?_;refine W.exit rfl (.stop ?_);exact fin _ _ rfl
  ·have Χ:υ.cr=1\/υ.sv=1:=J
   refine⟨{gx with nw:=gx.nw+1,wk:=if aw then 0 else gx.wk,sv:=if(st&&decide (υ.cr=1)) then 1 else gx.sv},.ch k .q .work,?_,rfl,⟨rfl,rfl,rfl⟩,by rw[cm];exact .queue (st&&decide (υ.cr=1)) J (λh=>by simp at h;exact⟨cD h.1,J⟩),λiG eS=>?_⟩
   ·simp only[ql,if_neg BJ,qk,aa,ai,aZ,cn];simp
   ·rw[hJ];refine V.cl (δ _ _ _) ?_;refine W.bL ?_;refine da ?_;refine aC rfl ?_;refine W.forget (dd m (mwd υ) aw st it τ) (by simp[dd]) (.stop ?_);exact tail iG _ J J
theorem aι (ε:j8 x s m sp) {φ:Nat} {aw st:Bool} {it τ:Int} {hp:Nat} {md:aW} (lS:0<=it) (FC:it<4)
  (Α:∀(cE:Nat) (iH:aW),cE<=hp->iH.toSpec=sp->tT iH (.ch k (.act aw) .work)->kO Q mn x c rest S H s m (.ch k (.act aw) .work) (some (cE,iH)) 1 mc (dd m (mwd iH) aw st (it+1) τ)) :
  kO Q mn x c rest S H s m (.ch k (.act aw) .work) (some (hp,md)) 1 (.code (eh [0,0,1,0,1,0] nS)::.code (eh [0,0,1,0,1,1] nS)::.code rr::.inBlock 1::mc) [(0,.z (ptr m 0)),(2,.z (.int .i64 τ)),(3,.z (.bool st)),(4,.z (.bool aw)),(5,.z (.int .i64 it))]:=by
 letI:bq:=fi;have δ:=ε.seq;have hw:IntKind.i64.wrap (it+1)=it+1:=by simp only[IntKind.wrap_i64];omega
 refine V.cl (δ _ _ _) ?_;unfold nS rq;refine da ?_;refine W.cC (.stop ?_);refine V.Fw (δ _ _ _) (vs:=[]) ⟨⟨rfl,rfl,by simp[Frame.enter],rfl⟩,Z6,⟨_,rfl⟩,rfl,rfl,rfl⟩ ?_;refine V.cl (δ _ _ _) ?_;refine W.bL ?_;refine da ?_;refine dt λΚ κ=>?_;(try simp);(repeat (rw[ah];simp[hw]));(try simp[hw]);apply κ;refine da ?_;refine W.cC ?_;refine fM [0,1,2] [3,4] ?_;refine W.stop ?_;refine V.y9 (δ _ _ _).here (sp:=sp) ε.spec (by rw[cm];exact id) ⟨rfl,rfl,by simp[Frame.enter],rfl⟩ rfl rfl rfl y' rfl FB mwd (λυ w Β bJ=>bJ.dZ (by rw[Β];exact ε.a4)) (λiG gk de=>.inl ?_);have yU:=de.view hp md qj;have fl:=de.j7.oc;rw[cm] at fl;unfold jb;rw[ln];refine V.cl (δ _ _ _) ?_;refine W.part (A:=[]) Φ [4] [] rfl λΚ κ=>?_;(try simp);(repeat (rw[ah];simp));(try simp);apply κ;refine W.bL ?_;refine W.exit rfl ?_;refine W.forget (dd m (mwd gk) aw st (it+1) τ) (by simp[dd]) (.stop ?_);exact Α iG gk J de.spec fl
theorem aκ (ε:j8 x s m sp) (Ν:tV Q mn x c rest S H s k sp):∀(N φ:Nat) (υ:aW) (aw st:Bool) (it τ:Int),φ*8+(4-it).toNat<N->υ.toSpec=sp->tT υ (.ch k (.act aw) .work)->(st=true->aw=true)->0<=it->it<=4->
  kO Q mn x c rest S H s m (.ch k (.act aw) .work) (some (φ,υ)) 1 (.code nS::mc) (dd m (mwd υ) aw st it τ):=by
 letI:bq:=fi;have δ:=ε.seq;intro N
 induction N with
 | zero=>intro φ υ aw st it τ h;omega
 | succ N BK=>
  intro φ υ aw st it τ cK Β ψ cD lS FC;have uT:=PG ψ;have hk:=BI ε Β;have π:=ψ.cr;have hw:=ψ.wk;have rf:=ψ.sv;have Θ:=ψ.nw;have fy:=Js υ.cr J υ.wk J υ.sv J υ.nw J;have Ε:=Fy υ.cr J υ.wk J υ.sv J υ.nw J;have iO:=ZY υ.cr J υ.wk J υ.sv J υ.nw J;have m4:=Jv υ.cr J υ.wk J υ.sv J υ.nw J;rw[<-qk] at fy Ε m4 iO;have back:∀(cE:Nat) (iH:aW) (oE zb:Bool) (vA fb:Int),cE*8+(4-vA).toNat<N->iH.toSpec=sp->tT iH (.ch k (.act oE) .work)->(zb=true->oE=true)->0<=vA->vA<=4->
    kO Q mn x c rest S H s m (.ch k (.act oE) .work) (some (cE,iH)) 1 mc (dd m (mwd iH) oE zb vA fb):=λcE iH oE zb vA fb U γ ο Ι ax bf=>by
   have:=BK cE iH oE zb vA fb U γ ο Ι ax bf;refine V.gj (δ _ _ _) rfl ?_;exact W.inLoop (.stop this)
  have e6:BH Q mn x c rest S H s m k sp φ:=λcE iH oE zb vA fb U γ ο Ι ax bf=>back cE iH oE zb vA fb J γ ο Ι ax bf
  have new:kO Q mn x c rest S H s m (.ch k (.act aw) .work) (some (φ,υ)) 1 (.code rr::.inBlock 1::mc) (dd m (mwd υ) aw st it τ):=by
   rw[qk];exact aγ ε J J J J uT cD (by rw[<-qk];exact aθ ε Ν e6 Β ψ cD lS FC)
  have BL:∀(hp:Nat) (md:aW) (oE:Bool),it<4->(hp<=φ)->(st=true->oE=true)->kO Q mn x c rest S H s m (.ch k (.act oE) .work) (some (hp,md)) 1 (.code (eh [0,0,1,0,1,0] nS)::.code (eh [0,0,1,0,1,1] nS)::.code rr::.inBlock 1::mc) [(0,.z (ptr m 0)),(2,.z (.int .i64 τ)),(3,.z (.bool st)),(4,.z (.bool oE)),(5,.z (.int .i64 it))]:=λhp md oE U γ ο=>
   aι ε (φ:=φ) lS U λcE iH aa ai aZ=>back cE iH oE st (it+1) τ J ai aZ ο J J
  refine V.cl (δ _ _ _) ?_;unfold nS rq;refine da ?_;by_cases ca:υ.cr=1/\υ.sv=0
  ·rw[ca.1,ca.2] at fy;refine W.cC ?_;refine W.part (A:=[]) Φ [0,1,2,3,4] [5,6] rfl λΚ κ=>?_;(try simp);(repeat (rw[ah];simp[dd,fy]));(try simp[dd,fy]);apply κ;refine W.stop ?_;refine V.canSpin (δ _ _ _) ⟨⟨rfl,rfl,by simp[Frame.enter],rfl⟩,Z5,⟨_,rfl⟩,rfl,rfl,rfl⟩ λy Μ=>?_;refine V.cl (δ _ _ _) ?_;refine W.part (A:=[]) Φ [6] [] rfl λΚ κ=>?_;(try simp);(repeat (rw[ah];simp[dd]));(try simp[dd]);apply κ;refine W.bL ?_;cases y with
   | false=>
    refine ay rfl ?_
    first|apply gW|apply wb|apply hY|apply wd
    refine W.forget (dd m (mwd υ) aw st it τ) (by simp[dd]) (.stop ?_);exact new
   | true=>
    have Ι:=Μ rfl;refine aC rfl ?_;refine da ?_;cases aw with
    | true=>
     (repeat (first|apply gW|apply wb|apply hY|apply wd|refine aC rfl ?_|refine ay rfl ?_|(refine dt λΚ κ=>?_;simp;(repeat (rw[ah];simp[dd]));apply κ)));refine W.forget [(0,.z (ptr m 0)),(2,.z (.int .i64 τ)),(3,.z (.bool st)),(4,.z (.bool true)),(5,.z (.int .i64 it))] η (.stop ?_);exact BL φ υ true Ι (Nat.le_refl _) (λ_=>rfl)
    | false=>
     by_cases FD:υ.wk=0
     ·by_cases se:υ.nw=0
      ·rw[FD] at Ε;rw[se] at m4;(repeat (first|apply gW|apply wb|apply hY|apply wd|refine aC rfl ?_|refine ay rfl ?_|(refine dt λΚ κ=>?_;simp;(repeat (rw[ah];simp[dd,Ε,m4]));apply κ)));refine W.forget [(0,.z (ptr m 0)),(2,.z (.int .i64 τ)),(3,.z (.bool st)),(4,.z (.bool false)),(5,.z (.int .i64 it))] η (.stop ?_);exact BL φ υ false Ι (Nat.le_refl _) cD
      ·rw[FD] at Ε;have PK:((υ.nw:Int) != 0)=true:=by simp;omega
       refine W.cC ?_;refine W.part (A:=[]) Φ [0,1,2,3,4,5,6,7,8,9,10,11,12,13,14,15,16,17,18] [19,20] rfl λΚ κ=>?_;(try simp);(repeat (rw[ah];simp[dd,Ε,m4,iO,se,PK]));(try simp[dd,Ε,m4,iO,se,PK]);apply κ;refine W.stop ?_;refine V.Ft (δ _ _ _).here (Nat.succ_pos _) (sp:=sp) ε.spec (by rw[cm];exact id) ε.a4 ⟨⟨rfl,rfl,by simp[Frame.enter],rfl⟩,FA,⟨_,rfl⟩,rfl,rfl,rfl⟩ (λhL gx ξ hv=>.inl ?_) (λhL gx ξ hv=>?_)
       ·have qW:=ξ.view φ υ qj;unfold jb;rw[ln];refine V.cl (δ _ _ _) ?_;refine W.part (A:=[]) Φ [20] [] rfl λΚ κ=>?_;(try simp);(repeat (rw[ah];simp[dd]));(try simp[dd]);apply κ;refine W.bL ?_;refine ay rfl ?_;refine da ?_;refine W.forget [(0,.z (ptr m 0)),(2,.z (.int .i64 τ)),(3,.z (.bool st)),(4,.z (.bool false)),(5,.z (.int .i64 it))] (by simp[dd]) (.stop ?_);exact BL hL gx false Ι J cD
       ·have qW:=ξ.view φ υ qj
        have jC:=ξ.j7.oc;rw[cm] at jC;obtain⟨aa,ai,aZ,cn⟩:=PJ jC ψ hv;refine⟨{gx with wk:=1},.ch k (.act true) .work,?_,rfl,⟨rfl,rfl,rfl⟩,by rw[cm];exact .Tm J J J J,λiG eS=>?_⟩
        ·simp[qk,aa,aZ,cn]
        ·rw[hJ];refine V.cl (δ _ _ _) ?_;refine W.part (A:=[]) Φ [20] [] rfl λΚ κ=>?_;(try simp);(repeat (rw[ah];simp[dd]));(try simp[dd]);apply κ;refine W.bL ?_;refine aC rfl ?_;refine dt λΚ κ=>?_;(try simp);(repeat (rw[ah];simp[dd]));(try simp[dd]);apply κ;refine da ?_;refine W.forget [(0,.z (ptr m 0)),(2,.z (.int .i64 τ)),(3,.z (.bool st)),(4,.z (.bool true)),(5,.z (.int .i64 it))] (by simp[dd]) (.stop ?_);exact BL iG _ true Ι J (λ_=>rfl)
     ·have h0:υ.wk=1:=J
      rw[h0] at Ε;(repeat (first|apply gW|apply wb|apply hY|apply wd|refine aC rfl ?_|refine ay rfl ?_|(refine dt λΚ κ=>?_;simp;(repeat (rw[ah];simp[dd,Ε]));apply κ)));refine W.forget [(0,.z (ptr m 0)),(2,.z (.int .i64 τ)),(3,.z (.bool st)),(4,.z (.bool false)),(5,.z (.int .i64 it))] η (.stop ?_);exact BL φ υ false Ι (Nat.le_refl _) cD
  ·have ax:¬eG .i32 (mwd υ) 5=1:=by rw[fy];omega
   refine dt λΚ κ=>?_;(try simp);(repeat (rw[ah];simp[dd,ax]));(try simp[dd,ax]);apply κ;refine ay rfl ?_
   first|apply gW|apply wb|apply hY|apply wd
   refine W.forget (dd m (mwd υ) aw st it τ) (by simp[dd]) (.stop ?_);exact new
theorem aμ (ε:j8 x s m sp):PD Q mn x s m k sp:=by
 intro c rest S B σ H v Δ Ν;letI:bq:=fi;have δ:=ε.seq;have head:=λφ υ aw st it τ γ ο Ι ax bf=>aκ ε Ν (φ*8+(4-it).toNat+1) φ υ aw st it τ (Nat.lt_succ_self _) γ ο Ι ax bf;refine V.rk (z:=one _) (vs:=[ptr m 0]) Tryz.func213 rfl Δ (by simp[Tryz.ntmps213]) ?_ _ rfl;refine V.cl (δ _ _ _) ?_;refine ih ?_;refine W.cC ?_;refine fM [0,1,2] [3,4] ?_;refine W.stop ?_;refine V.y9 (δ _ _ _).here (sp:=sp) ε.spec (by rw[cm];exact id) ⟨rfl,rfl,by simp[Frame.enter],rfl⟩ rfl rfl rfl y' rfl FB mwd (λυ w Β bJ=>bJ.dZ (by rw[Β];exact ε.a4)) (λiG gk de=>.inl ?_);have fl:=de.j7.oc;rw[cm] at fl;unfold jb;rw[ln];refine V.cl (δ _ _ _) ?_;refine W.part (A:=[]) Φ [4] [] rfl λΚ κ=>?_;(try simp);(repeat (rw[ah];simp));(try simp);apply κ;refine W.bL ?_;refine da ?_;refine W.loop ?_;refine W.forget (dd m (mwd gk) false false 0 0) (by simp[dd]) (.stop ?_);exact head iG gk false false 0 0 de.spec fl (λh=>by cases h) J J
theorem aν (ε:j8 x s m sp) (Δ:Holds S B σ H) (Ν:tV Q mn x c rest S H s k sp):cG Tryz.prog Q mn (bB x s (.ch k .idle .work) v 0) (Frame.enter Tryz.prog 144 #[ptr m 0] .normal) (c::rest) H:=by
 letI:bq:=fi;have δ:=ε.seq;refine V.rk (z:=one _) (vs:=[ptr m 0]) Tryz.func144 rfl Δ (by simp[Tryz.ntmps144]) ?_ _ rfl;refine V.cl (δ _ _ _) ?_;refine da ?_;refine W.cC ?_;refine fM [0,1,2] [3] ?_;refine W.stop ?_;refine V.call (δ _ _ _) ⟨rfl,rfl,by simp[Frame.enter],rfl⟩ rfl rfl rfl ⟨_,Tryz.func175,rfl,rfl⟩ λbS b1 H1 t1 p8 ν ω hv=>?_;obtain rfl:=nQ (l:=[ptr m 0]) hv;obtain rfl:b1=[]:=dO.1 ω.holds.len;rintro y rfl;refine aα ε ω.holds (aμ ε) λc8 bN L E mb jX cV iR xw=>?_;rw[jl rfl];refine cG.leave0 (δ _ _ _) rfl rfl rfl rfl Tryz.func144 rfl ?_;exact Ν c8 bN L E (ν.ext.trans mb) jX cV iR xw
end
noncomputable def PL:Code:=Tryz.f215.body.getD .skip
noncomputable def JA:Code:=eh [1,1,0,1,0,0] PL
noncomputable def PM:List Item:=[.inLoop JA,.inBlock 0]
theorem aξ:∀n<8,0<n->fB .i32 (IntKind.i32.wrap (hK 0 0 0 n-8)) 2=hK 0 1 0 (n-1):=by decide +kernel
theorem aο:∀b<2,∀c<2,∀n<8,eG .i32 (IntKind.i32.wrap (hK 0 b c n+1)) 1=1:=by decide +kernel
abbrev fE:aO:=λ_ _=>none
theorem BM {S aJ:aO} {B B':a0} {σ σ':ac} {env:ab} {t:Array Value} (he:∀p∈env,∃v,p.2=θ.z v) (h:dB S B σ env t):dB aJ B' σ' env t:=by
 intro i;have key:∀(env:ab),(∀p∈env,∃v,p.2=θ.z v)->(∃v,a' env i=.z v)\/a' env i=.cz:=by
  intro env
  induction env with
  | nil=>exact λ_=>.inr rfl
  | cons p l Α=>
   intro h;obtain⟨j,a⟩:=p;simp only[a'];split
   ·exact .inl (h (j,a) η)
   ·exact Α λq Χ=>h q (by simp[Χ])
 have hi:=h i;rcases key env he with⟨v,e⟩|e
 ·rw[e] at hi ⊢;generalize t.getD i undef=u at hi;cases hi;exact .z _
 ·rw[e];exact .cz _
theorem zc (H:Γ):Holds fE [] [] H:=⟨λb o v h=>(by cases h),rfl,λid r bo h=>(by simp at h),λi j eF cp b gO gP _ h=>(by simp at h),λid r b N h=>(by simp at h)⟩
theorem gd.none {m nt:Nat} {S:aO} {B:a0} {H H':Γ} {env:ab} {t:Array Value} (h:gd m nt S B H [] env t) (he:∀p∈env,∃v,p.2=θ.z v):gd 0 nt fE [] H' [] env t:=⟨zc H',BM he h.cH,h.size,Nat.le_refl _⟩
section
variable {Q:Value->Prop} {mn:Bool} {x:a7} {c:Frame} {rest:List Frame} {S:aO} {B:a0} {σ:ac} {H:Γ} {s m k:Nat} {sp:Spec} {v:Option (Nat×aW)} {t:Tok}
abbrev JB (Q:Value->Prop) (mn:Bool) (x:a7) (c:Frame) (rest:List Frame) (H:Γ) (s m:Nat) (w:Int) (t:Tok) (v:Option (Nat×aW)) (K:List Item) (env:ab):Prop:=
 V Tryz.prog Q mn (one (bB x s t v 1)) (Frame.enter Tryz.prog 215 #[ptr m 0,.int .i32 w] .normal) (c::rest) 43 ⟨fE,[],H,[],0⟩ K env []
def BN (Q:Value->Prop) (mn:Bool) (x:a7) (c:Frame) (rest:List Frame) (H:Γ) (s k d:Nat):Prop:=
 ∀(v:Option (Nat×aW)) (c8:aO) (bN:Γ),Ext fE [] H c8 [] bN->cG Tryz.prog Q mn (bB x s (.ch k .done .work) v d) (c.finish (.tuple #[])) rest bN
theorem JC (ε:j8 x s m sp) (Ν:BN Q mn x c rest H s k 1) {w:Int} {K:List Item} {env:ab} (e:t=.ch k .done .work):JB Q mn x c rest H s m w t v (.code .ret::K) env:=by
 letI:bq:=fi;have δ:=ε.seq;subst e;refine V.Jo (δ _ _ _) rfl rfl rfl rfl Tryz.func215 rfl λbS b1 H1 ν Δ=>?_;obtain rfl:b1=[]:=dO.1 Δ.len;rintro y rfl;exact Ν v bS H1 ν.ext
def PN (k:Nat) (υ:aW) (t:Tok):Prop:=((υ.nw=0\/υ.cr=1\/υ.wk=1\/υ.sv=1)/\t=.ch k .done .work)\/(0<υ.nw/\υ.cr=0/\υ.wk=0/\υ.sv=0/\t=.ch k .uc .work)
theorem PO (ε:j8 x s m sp) (Ν:BN Q mn x c rest H s k 1) {w:Int}:∀(N φ:Nat) (υ:aW) (t:Tok),φ<N->υ.cr<=1->υ.wk<=1->υ.sv<=1->υ.nw<7->PN k υ t->
  JB Q mn x c rest H s m w t (some (φ,υ)) (.code JA::PM) [(0,.z (ptr m 0)),(4,.z (.int .i32 (mwd υ)))]:=by
 letI:bq:=fi;have δ:=ε.seq;intro N
 induction N with
 | zero=>intro φ υ t h;omega
 | succ N BK=>
  intro φ υ t cK π hw rf Θ Υ;have rO:=ZV υ.cr J υ.wk J υ.sv J υ.nw J;have m4:=Jv υ.cr J υ.wk J υ.sv J υ.nw J;rw[<-qk] at rO m4;have back:∀(cE:Nat) (iH:aW) (t':Tok),cE<N->iH.cr<=1->iH.wk<=1->iH.sv<=1->iH.nw<7->PN k iH t'->JB Q mn x c rest H s m w t' (some (cE,iH)) PM [(0,.z (ptr m 0)),(4,.z (.int .i32 (mwd iH)))]:=λcE iH t' U γ ο Ι ax bf=>by
   have:=BK cE iH t' U γ ο Ι ax bf;refine V.gj (δ _ _ _) rfl ?_;exact W.inLoop (.stop this)
  refine V.cl (δ _ _ _) ?_;unfold JA PL;refine da ?_;rcases Υ with⟨Υ,rfl⟩|⟨U,γ,ο,Ι,rfl⟩
  ·by_cases Ψ:υ.nw=0
   ·rw[Ψ] at m4;refine ij m4 ?_;exact .stop (JC ε Ν rfl)
   ·have hx:¬eG .i32 (mwd υ) 7=0:=by rw[rO];omega
    have G4:(eG .i32 (mwd υ) 7 != 0)=true:=by simpa using hx
    refine ij (ς m4 (ς Ψ (ς hx G4))) ?_;exact .stop (JC ε Ν rfl)
  ·have Ψ:¬υ.nw=0:=J
   have ob:¬(υ.nw:Int)=0:=J
   have FE:mwd υ=hK 0 0 0 υ.nw:=by rw[qk,γ,ο,Ι]
   have zT:=aξ υ.nw J U;rw[<-FE] at zT;rw[γ,ο,Ι] at rO;refine ij (ς m4 (ς Ψ (ς ob rO))) ?_;refine W.cC ?_;refine W.part (A:=[]) Φ [0,1,2,3,4] [5] rfl λΚ κ=>?_;(try simp);(repeat (rw[ah];simp[zT]));(try simp[zT]);apply κ;refine W.stop ?_;refine V.Ft (δ _ _ _).here (Nat.succ_pos _) (sp:=sp) ε.spec (by rw[cm];exact id) ε.a4 ⟨⟨rfl,rfl,by simp[Frame.enter],rfl⟩,FA,⟨_,rfl⟩,rfl,rfl,rfl⟩ (λhL gx ξ hv=>.inl ?_) (λhL gx ξ hv=>?_)
   ·have qW:=ξ.view φ υ qj
    have ax:hL<φ:=by
     rcases Nat.lt_or_ge hL φ with h|h
     ·exact h
     ·exact absurd (by rw[qW.2 J]) hv
    unfold jb;rw[ln];refine V.cl (δ _ _ _) ?_;refine W.bL ?_;refine ay rfl ?_;refine da ?_;refine W.cC ?_;refine fM [0,1,2] [3,4] ?_;refine W.stop ?_;refine V.y9 (δ _ _ _).here (sp:=sp) ε.spec (by rw[cm];exact id) ⟨rfl,rfl,by simp[Frame.enter],rfl⟩ rfl rfl rfl y' rfl (by kernel_rfl) mwd (λυ w Β bJ=>bJ.dZ (by rw[Β];exact ε.a4)) (λiG gk de=>?_);have yU:=de.view hL gx qj;have fl:=de.j7.oc;have hk:=BI ε de.spec;have aa:=fl.cr;have ai:=fl.wk;have aZ:=fl.sv;have cn:=fl.nw;by_cases uP:gk.nw=0\/gk.cr=1\/gk.wk=1\/gk.sv=1
    ·refine .inr ⟨.ch k .done .work,by rw[cm];exact .Tr uP,λza eS=>?_⟩;rw[hJ];refine V.cl (δ _ _ _) ?_;refine W.part (A:=[]) Φ [4] [] rfl λΚ κ=>?_;(try simp);(repeat (rw[ah];simp));(try simp);apply κ;refine W.bL ?_;refine da ?_;refine W.forget [(0,.z (ptr m 0)),(4,.z (.int .i32 (mwd gk)))] η (.stop ?_);exact back za gk _ J aa ai aZ J (.inl ⟨uP,rfl⟩)
    ·refine .inl ?_;unfold jb;rw[ln];refine V.cl (δ _ _ _) ?_;refine W.part (A:=[]) Φ [4] [] rfl λΚ κ=>?_;(try simp);(repeat (rw[ah];simp));(try simp);apply κ;refine W.bL ?_;refine da ?_;refine W.forget [(0,.z (ptr m 0)),(4,.z (.int .i32 (mwd gk)))] η (.stop ?_);exact back iG gk _ J aa ai aZ J (.inr ⟨J,J,J,J,rfl⟩)
   ·have jC:=ξ.j7.oc
    have hk:=BI ε ξ.spec
    have f1:=jC.cr;have f2:=jC.wk;have f3:=jC.sv;have f4:=jC.nw
    have f5:gx.cr=0/\gx.wk=0/\gx.sv=0/\gx.nw=υ.nw:=by
     rw[FE] at hv;simp only[mwd,hK] at hv;omega
    refine⟨{gx with nw:=gx.nw-1,wk:=1},.ch k .us .work,?_,rfl,⟨rfl,rfl,rfl⟩,by rw[cm];exact .Tq J J J J,λiG eS=>?_⟩
    ·simp[qk,f5]
    ·rw[hJ];refine V.cl (δ _ _ _) ?_;refine W.bL ?_;refine aC rfl ?_;refine da ?_;refine W.cC ?_;refine fM [0,1,2] [3] ?_;refine W.stop ?_;refine V.Pp (δ _ _ _).here (sp:=sp) ε.spec (by rw[cm];exact id) ε.a4 (vs:=[ptr m 1,.bool false,.int .i64 2]) rfl ⟨⟨rfl,rfl,by simp[Frame.enter],rfl⟩,PA,⟨_,rfl⟩,rfl,rfl,rfl⟩ (λza dK sF=>?_);have iN:=sF.j7.oc;refine⟨by have:=iN.dm;omega,{dK with dm:=dK.dm+1},.ch k .done .work,rfl,rfl,⟨rfl,rfl,rfl⟩,by rw[cm];exact .post,λBO mγ=>?_⟩;rw[hJ];refine V.cl (δ _ _ _) ?_;refine W.bL (.stop ?_);exact JC ε Ν rfl
theorem aπ (ε:j8 x s m sp) (Ν:BN Q mn x c rest H s k 1) {υ:aW} {φ:Nat} (Β:υ.toSpec=sp) (FF:υ.cr=0) (Bx:υ.wk<=1) (oD:υ.sv<=1) (PQ:υ.nw<7)
  (Υ:(υ.sv=0/\(υ.nw=0\/υ.wk=1)/\t=.ch k .done .work)\/(υ.sv=0/\0<υ.nw/\υ.wk=0/\t=.ch k .uc .work)\/(υ.sv=1/\t=.ch k .us .work)) :
  cG Tryz.prog Q mn (bB x s t (some (φ,υ)) 1) (Frame.enter Tryz.prog 215 #[ptr m 0,.int .i32 (mwd υ)] .normal) (c::rest) H:=by
 letI:bq:=fi;have δ:=ε.seq;have dz:=aο υ.wk J υ.sv J υ.nw J;have cR:=Jt 0 J υ.wk J υ.sv J υ.nw J;have FE:mwd υ=hK 0 υ.wk υ.sv υ.nw:=by rw[qk,FF]
 rw[<-FE] at dz cR;refine V.rk (z:=one _) (vs:=[ptr m 0,.int .i32 (mwd υ)]) (S:=fE) Tryz.func215 rfl (zc H) (by simp[Tryz.ntmps215]) ?_ _ rfl;refine V.cl (δ _ _ _) ?_;rcases Υ with⟨U,γ,rfl⟩|⟨U,γ,ο,rfl⟩|⟨U,rfl⟩
 ·rw[U] at cR;refine ij (ς dz cR) ?_;refine W.loop ?_;refine W.forget [(0,.z (ptr m 0)),(4,.z (.int .i32 (mwd υ)))] η (.stop ?_);exact PO ε Ν (φ+1) φ υ _ (Nat.lt_succ_self _) J Bx oD PQ (.inl ⟨γ.imp id λh=>.inr (.inl h),rfl⟩)
 ·rw[U] at cR;refine ij (ς dz cR) ?_;refine W.loop ?_;refine W.forget [(0,.z (ptr m 0)),(4,.z (.int .i32 (mwd υ)))] η (.stop ?_);exact PO ε Ν (φ+1) φ υ _ (Nat.lt_succ_self _) J Bx oD PQ (.inr ⟨γ,FF,ο,U,rfl⟩)
 ·rw[U] at cR;refine ij (ς dz cR) ?_;refine W.cC ?_;refine fM [0,1,2] [3] ?_;refine W.stop ?_;refine V.Pp (δ _ _ _).here (sp:=sp) ε.spec (by rw[cm];exact id) ε.a4 (vs:=[ptr m 1,.bool true,.int .i64 2]) rfl ⟨⟨rfl,rfl,by simp[Frame.enter],rfl⟩,PA,⟨_,rfl⟩,rfl,rfl,rfl⟩ (λhL gx ξ=>?_);have jC:=ξ.j7.oc;refine⟨by have:=jC.dm;omega,{gx with dm:=gx.dm+1},.ch k .done .work,rfl,rfl,⟨rfl,rfl,rfl⟩,by rw[cm];exact .post,λiG eS=>?_⟩;rw[hJ];refine V.cl (δ _ _ _) ?_;refine W.bL (.stop ?_);refine V.Fv (δ _ _ _) rfl rfl rfl rfl Tryz.func215 rfl λbS b1 H1 ν Δ=>?_;obtain rfl:b1=[]:=dO.1 Δ.len;rintro y rfl;exact Ν _ bS H1 ν.ext
end
noncomputable def BP:Code:=Tryz.f176.body.getD .skip
theorem aρ:(Tryz.prog.funcs[176]?).any (·.norace)=true:=by kernel_rfl
section
variable {Q:Value->Prop} {mn:Bool} {x:a7} {c:Frame} {rest:List Frame} {S:aO} {B:a0} {σ:ac} {H:Γ} {s m k:Nat} {sp:Spec} {v:Option (Nat×aW)} {t:Tok}
abbrev PR (Q:Value->Prop) (mn:Bool) (x:a7) (c:Frame) (rest:List Frame) (H:Γ) (s m:Nat) (t:Tok) (v:Option (Nat×aW)) (d:Nat) (K:List Item) (env:ab):Prop:=
 V Tryz.prog Q mn (one (bB x s t v d)) (Frame.enter Tryz.prog 176 #[ptr m 0] .normal) (c::rest) 21 ⟨fE,[],H,[],0⟩ K env []
theorem PS {aJ:aO} {H H':Γ} (h:Ext fE [] H aJ [] H'):Ext fE [] H fE [] H':=
 ⟨λb o v h=>(by cases h),λb hb Ρ=>h.gl b hb Ρ,λb hb=>h.blocks b hb,λb o v h=>(by cases h),h.grow⟩
theorem PT (ε:j8 x s m sp) (Ν:BN Q mn x c rest H s k 0) {env:ab}:PR Q mn x c rest H s m (.ch k .done .work) v 1 [.code (eh [1,1,1] BP)] env:=by
 letI:bq:=fi;have δ:=ε.seq;refine V.cl (δ _ _ _) ?_;unfold BP;refine W.cC (.stop ?_);refine V.enable (δ _ _ _).here (Nat.succ_pos _) ⟨⟨rfl,rfl,by simp[Frame.enter],rfl⟩,vx,⟨_,rfl⟩,rfl,rfl,rfl⟩ ?_;rw[BC];refine V.cl (δ _ _ _) ?_;refine W.bL (.stop ?_);refine V.Fv (δ _ _ _) rfl rfl rfl rfl Tryz.func176 rfl λbS b1 H1 ν Δ=>?_;obtain rfl:b1=[]:=dO.1 Δ.len;rintro y rfl;exact Ν _ bS H1 ν.ext
theorem aς (ε:j8 x s m sp) (Δ:Holds S B σ H) {L:List Nat}
  (di:∀(aJ:aO) (H':Γ),Ext S [] H aJ [] H'->Holds aJ [] [] H'->∃H1 E,Split H' H1 E/\sp.av (L++[k]) E/\BN Q mn x c rest H1 s k 0) :
  cG Tryz.prog Q mn (bB x s (.ch k (.dA L) .work) v 0) (Frame.enter Tryz.prog 176 #[ptr m 0] .normal) (c::rest) H:=by
 letI:bq:=fi;have δ:=ε.seq;refine V.rk (z:=one _) (vs:=[ptr m 0]) Tryz.func176 rfl Δ (by simp[Tryz.ntmps176]) ?_ _ rfl;refine V.cl (δ _ _ _) ?_;refine da ?_;refine aC rfl ?_;refine da ?_;refine W.cC ?_;refine fM [0,1,2] [3] ?_;refine W.stop ?_;refine V.y9 (δ _ _ _).here (sp:=sp) ε.spec (by rw[cm];exact id) ⟨rfl,rfl,by simp[Frame.enter],rfl⟩ rfl rfl rfl y' rfl aρ mwd (λυ w Β bJ=>bJ.dZ (by rw[Β];exact ε.a4)) (λhL gx sG=>.inl ?_);unfold jb;rw[ln];refine V.cl (δ _ _ _) ?_;refine W.bL ?_;refine da ?_;refine W.forget [(0,.z (ptr m 0))] η ?_;refine W.cC ?_;refine fM [0] [1,2] ?_;refine W.stop ?_;refine V.conv (δ _ _ _).here (sp:=sp) ε.spec (by rw[cm];exact id) ⟨rfl,rfl,by simp[Frame.enter],rfl⟩ rfl rfl rfl Jw vy Jx rfl (λυ w Β bJ=>⟨_,bJ.dZ (by rw[Β];exact ε.a4)⟩) (λφ υ ξ=>?_);unfold jb;rw[ln];refine V.Hp ε.rel rfl (sp:=sp) (L:=L) ε.spec ε.a4 cm ⟨⟨rfl,rfl,by simp[Frame.enter],rfl⟩,Pu,⟨_,rfl⟩,rfl,rfl,rfl⟩ λbS b1 H1 t1 ν ω=>?_;obtain rfl:b1=[]:=dO.1 ω.holds.len;obtain⟨bN,E,aa,ai,aZ⟩:=di bS H1 ν.ext ω.holds;refine⟨bN,E,aa,ai,?_⟩;rw[hJ];refine V.here (x:=one _) (S:=fE) (B:=[]) (σ:=[]) (m:=0) (nt:=21) ?_ (ω.none η) _ rfl;refine V.cl (δ _ _ _) ?_;refine W.bL ?_;refine da ?_;refine W.cC (.stop ?_);refine V.disable (δ _ _ _).here ⟨⟨rfl,rfl,by simp[Frame.enter],rfl⟩,BF,⟨_,rfl⟩,rfl,rfl,rfl⟩ ?_;rw[BB];refine V.cl (δ _ _ _) ?_;refine W.bL ?_;refine da ?_;refine W.cC ?_;refine fM [0,1,2] [3,4] ?_;refine W.stop ?_;refine V.Pj (δ _ _ _).here (Nat.succ_pos _) (sp:=sp) ε.spec (by rw[cm];exact id) ε.a4 ⟨⟨rfl,rfl,by simp[Frame.enter],rfl⟩,Pw,⟨_,rfl⟩,rfl,rfl,rfl⟩ (λza dK sF=>?_);have iN:=sF.j7.oc;rw[cm] at iN;have FF:=iN.hold rfl;have hk:=BI ε sF.spec;have f1:=iN.wk;have f2:=iN.sv;have f3:=iN.nw;have BQ:mwd {dK with cr:=0}=IntKind.i32.wrap (mwd dK+-1):=by simp only[mwd,IntKind.wrap_i32,FF];omega
 have go:∀(t:Tok) (cE:Nat),(dK.sv=0/\(dK.nw=0\/dK.wk=1)/\t=.ch k .done .work)\/(dK.sv=0/\0<dK.nw/\dK.wk=0/\t=.ch k .uc .work)\/(dK.sv=1/\t=.ch k .us .work)->
   PR Q mn x c rest bN s m t (some (cE,{dK with cr:=0})) 1 [.code (eh [1,1,0] BP),.code (eh [1,1,1] BP)] [(0,.z (ptr m 0)),(2,.z (.int .i32 (mwd {dK with cr:=0})))]:=λt cE Υ=>by
  refine V.cl (δ _ _ _) ?_;unfold BP;refine da ?_;by_cases Ψ:mwd {dK with cr:=0}=0
  ·refine ij Ψ ?_;have aτ:t=.ch k .done .work:=by
    simp only[mwd] at Ψ;rcases Υ with⟨_,_,h⟩|⟨_,h,_⟩|⟨h,_⟩
    ·exact h
    ·omega
    ·omega
   subst aτ;exact .stop (PT ε aZ)
  ·have ob:(mwd {dK with cr:=0} != 0)=true:=by simpa using Ψ
   refine ij (ς Ψ ob) ?_;refine W.cC ?_;refine fM [0,1] [2] ?_;refine W.stop ?_;refine V.call (δ _ _ _) ⟨rfl,rfl,by simp[Frame.enter],rfl⟩ rfl rfl rfl ⟨_,Tryz.func215,rfl,rfl⟩ λkI p9 kJ t4 aυ tK q7 JD=>?_;obtain rfl:=nQ (l:=[ptr m 0,.int .i32 (mwd {dK with cr:=0})]) JD;obtain rfl:p9=[]:=dO.1 q7.holds.len;rintro y rfl;refine aπ ε (λmδ ju iF aφ=>?_) (by exact sF.spec) rfl f1 f2 (by show dK.nw<7;omega) Υ;rw[jl rfl];have FG:Ext fE [] bN fE [] iF:=(PS tK.ext).trans (PS aφ);refine V.here (x:=one _) (S:=fE) (B:=[]) (σ:=[]) (m:=0) (nt:=21) ?_ ((q7.put (a:=po) rfl (.z _)).none η) _ rfl;refine V.cl (δ _ _ _) ?_;refine W.bL (.stop ?_);exact PT ε λv6 JE JF bf=>aZ v6 JE JF (FG.trans bf)
 by_cases oD:dK.sv=1
 ·refine⟨{dK with cr:=0},.ch k .us .work,BQ,rfl,⟨rfl,rfl,rfl⟩,by rw[cm];exact .Tp oD,λBO _=>?_⟩;rw[hJ];refine V.cl (δ _ _ _) ?_;refine W.part (A:=[]) Φ [4] [] rfl λΚ κ=>?_;(try simp);(repeat (rw[ah];simp));(try simp);apply κ;refine W.bL ?_
  first|apply gW|apply wb|apply hY|apply wd
  refine W.forget [(0,.z (ptr m 0)),(2,.z (.int .i32 (mwd {dK with cr:=0})))] η (.stop ?_);exact go _ BO (.inr (.inr ⟨oD,rfl⟩))
 ·have gF:dK.sv=0:=J
  have step:∀(t:Tok),(dK.sv=0/\(dK.nw=0\/dK.wk=1)/\t=.ch k .done .work)\/(dK.sv=0/\0<dK.nw/\dK.wk=0/\t=.ch k .uc .work)->Act dK (.ch k .fin .work) {dK with cr:=0} t->∃o' t',mwd o'=IntKind.i32.wrap (mwd dK+-1)/\o'.dm=dK.dm/\y8 dK o'/\Act dK (.ch k .fin .work) o' t'/\((dK.sv=0/\(dK.nw=0\/dK.wk=1)/\t'=.ch k .done .work)\/(dK.sv=0/\0<dK.nw/\dK.wk=0/\t'=.ch k .uc .work))/\o'={dK with cr:=0}:=λt U γ=>⟨_,t,BQ,rfl,⟨rfl,rfl,rfl⟩,γ,U,rfl⟩;obtain⟨o',t',e2,dq,hU,u5,u6,rfl⟩:∃o' t',mwd o'=IntKind.i32.wrap (mwd dK+-1)/\o'.dm=dK.dm/\y8 dK o'/\Act dK (.ch k .fin .work) o' t'/\((dK.sv=0/\(dK.nw=0\/dK.wk=1)/\t'=.ch k .done .work)\/(dK.sv=0/\0<dK.nw/\dK.wk=0/\t'=.ch k .uc .work))/\o'={dK with cr:=0}:=by
   by_cases Θ:dK.nw=0\/dK.wk=1
   ·exact step _ (.inl ⟨gF,Θ,rfl⟩) (.Tn gF Θ)
   ·exact step _ (.inr ⟨gF,J,J,rfl⟩) (.To gF J J)
  refine⟨_,t',e2,dq,hU,by rw[cm];exact u5,λBO _=>?_⟩;rw[hJ];refine V.cl (δ _ _ _) ?_;refine W.part (A:=[]) Φ [4] [] rfl λΚ κ=>?_;(try simp);(repeat (rw[ah];simp));(try simp);apply κ;refine W.bL ?_
  first|apply gW|apply wb|apply hY|apply wd
  refine W.forget [(0,.z (ptr m 0)),(2,.z (.int .i32 (mwd {dK with cr:=0})))] η (.stop ?_);exact go _ BO (u6.imp id λh=>.inl h)
theorem cG.leaveD [bq] {P:Program} {Q:Value->Prop} {mn:Bool} {x:a7} {c b:Frame} {rest:List Frame} {H:Γ} {t:Array Value} {ops:Array Oper} {fn:Func} (δ:Seq (one x)) (hb:b.mode=.run) (cv:b.roundOf=none) (e6:b.defers=[]) (ht:b.kind=.deferred) (bR:P.funcs[b.fn]?=some fn) (fs:fn.results=#[])
  (pt:c.mode=.returning) (h:cG P Q mn x c rest H):cG P Q mn x (aD b t [.inRegion ops []]) (c::rest) H:=by
 refine aV.bL (x:=one x) δ hb (.s' δ hb cv (.HJ δ rfl e6 ht bR ?_)) x rfl;rw[results_none fs];refine χ.pure' ?_;simp only[pt];intro y Μ;cases Μ;exact h
theorem aχ (ε:j8 x s m sp) (Δ:Holds S B σ H) (pt:c.mode=.returning) {L:List Nat}
  (di:∀(aJ:aO) (H':Γ),Ext S [] H aJ [] H'->Holds aJ [] [] H'->∃H1 E,Split H' H1 E/\sp.av (L++[k]) E/\∀(v:Option (Nat×aW)) (c8:aO) (bN:Γ),Ext fE [] H1 c8 [] bN->cG Tryz.prog Q mn (bB x s (.ch k .done .work) v 0) c rest bN) :
  cG Tryz.prog Q mn (bB x s (.ch k (.dA L) .work) v 0) (Frame.enter Tryz.prog 145 #[ptr m 0] .deferred) (c::rest) H:=by
 letI:bq:=fi;have δ:=ε.seq;rw[q5 (body:=Tryz.f145.body.getD .skip) Tryz.func145 rfl];refine V.here (x:=one _) (m:=0) (nt:=6) (env:=entry 0 [.z (ptr m 0)]) ?_ (gd.enter Δ.bare ⟨rfl,λi a v U γ=>?_⟩ (Nat.le_refl _) η) _ rfl
 ·refine V.gj (δ _ _ _) rfl ?_;simp only[Tryz.f145,Option.getD_some];refine da ?_;refine W.cC ?_;refine fM [0,1,2] [3] ?_;refine W.stop ?_;refine V.call (δ _ _ _) ⟨rfl,rfl,by simp[Frame.enter],rfl⟩ rfl rfl rfl ⟨_,Tryz.func176,rfl,rfl⟩ λbS b1 H1 t1 p8 ν ω hv=>?_;obtain rfl:=nQ (l:=[ptr m 0]) hv;obtain rfl:b1=[]:=dO.1 ω.holds.len;rintro y rfl;refine aς ε ω.holds (L:=L) λc8 bN mb jX=>?_;obtain⟨j4,E,aa,ai,aZ⟩:=di c8 bN (ν.ext.trans mb) jX;refine⟨j4,E,aa,ai,λv4 kI kJ pv=>?_⟩;rw[jl rfl];refine cG.leaveD (δ _ _ _) rfl rfl rfl rfl Tryz.func145 rfl pt ?_;exact aZ v4 kI kJ pv
 ·cases i with
  | zero=>simp at U γ;subst U;subst γ;exact .z _
  | succ i=>simp at U
end
structure m5 (x:a7) (s:Nat) (sp:Spec):Prop where
 rel:x.rel=false
 aR:x.aR=λ_=>none
 spec:x.spec s=some sp
 top:sp.top<7
 still:∀bs,bs≠s->oa (x.tok bs)
theorem m5.seq {x:a7} {s:Nat} {sp:Spec} (h:m5 x s sp):∀t v d,@Seq fi (one (bB x s t v d)):=λt v d=>@Seq.vv fi _ trivial h.rel h.aR
abbrev iW (c w:Nat):Int:=(c:Int)*4294967296+w
theorem FH:∀c<8,∀w<2,eG .u64 (iW c w) 2147483648=0:=by decide +kernel
theorem FI:∀c<8,∀w<2,IntKind.i32.wrap ((iW c w).fdiv (2 ^ min 32 IntKind.u64.bits))=c:=by decide +kernel
theorem FJ:∀c<8,∀w<2,IntKind.u32.wrap (eG .u64 (iW c w) 2147483647)=w:=by decide +kernel
theorem aψ:∀c<7,∀w<2,IntKind.u64.wrap (iW c w+4294967296)=iW (c+1) w:=by decide +kernel
theorem aω:∀c<8,∀w<2,0<c->IntKind.u64.wrap (iW c w+18446744069414584320)=iW (c-1) w:=by decide +kernel
theorem aΑ:∀c<8,IntKind.u64.wrap (iW c 0+1)=iW c 1:=by decide +kernel
theorem PU:IntKind.u64.wrap 1=1:=br
theorem PV:IntKind.u64.wrap (2 ^ min 32 IntKind.u64.bits)=4294967296:=br
theorem JG:IntKind.i32.wrap 1=1:=br
theorem vB (υ:aW):c7 υ=iW υ.cnt υ.wt:=rfl
section
variable {Q:Value->Prop} {mn:Bool} {x:a7} {c:Frame} {rest:List Frame} {S:aO} {B:a0} {σ:ac} {H:Γ} {s k:Nat} {sp:Spec} {v:Option (Nat×aW)} {t:Tok}
theorem FK (ε:m5 x s sp) {υ:aW} (h:υ.toSpec=sp):υ.top<7:=by have:=ε.top;rw[show υ.top=sp.top by rw[<-h]];exact this
def zd (Q:Value->Prop) (mn:Bool) (x:a7) (c:Frame) (rest:List Frame) (S:aO) (H:Γ) (r:Value):Prop:=
 ∀(aJ:aO) (H':Γ),Ext S [] H aJ [] H'->Holds aJ [] [] H'->cG Tryz.prog Q mn x (c.finish r) rest H'
theorem aΒ (ε:m5 x s sp) (c0:¬gB t) {d:Int} (Δ:Holds S B σ H)
  (dJ:∀φ υ,Seen (bB x s t v 1) s sp φ υ->∃o' t',c7 o'=IntKind.u64.wrap (c7 υ+d)/\o'.cU=υ.cU/\sD υ o'/\Act υ t o' t'/\∀cE,cE<φ->zd Q mn (bB x s t' (some (cE,o')) 1) c rest S H (.int .u64 (c7 o'))) :
  cG Tryz.prog Q mn (bB x s t v 1) (Frame.enter Tryz.prog 166 #[ptr s 0,.int .u64 d] .normal) (c::rest) H:=by
 letI:bq:=fi;have δ:=ε.seq;refine V.rk (z:=one _) (vs:=[ptr s 0,.int .u64 d]) Tryz.func166 rfl Δ (by simp[Tryz.ntmps166]) ?_ _ rfl;refine V.cl (δ _ _ _) ?_;refine ih ?_;refine W.cC ?_;refine fM [0,1,2,3] [4,5] ?_;refine W.stop ?_;refine V.Jn (δ _ _ _).here (Nat.succ_pos _) (sp:=sp) ε.spec (by rw[cm];exact c0) ⟨⟨rfl,rfl,by simp[Frame.enter],rfl⟩,Px,⟨_,rfl⟩,rfl,rfl,rfl⟩ (λφ υ ξ=>?_);obtain⟨o',t',U,γ,ο,Ι,ax⟩:=dJ φ υ ξ;refine⟨o',t',U,γ,ο,by rw[cm];exact Ι,λcE eS=>?_⟩;rw[hJ];refine V.cl (δ _ _ _) ?_;refine W.part (A:=[]) Φ [5] [] rfl λΚ κ=>?_;(try simp);(repeat (rw[ah];simp));(try simp);apply κ;refine W.bL (.stop ?_);refine V.tR (δ _ _ _) rfl rfl rfl rfl Tryz.func166 rfl rfl λbS b1 H1 ν kz=>?_;obtain rfl:b1=[]:=dO.1 kz.len;rintro y rfl;exact ax cE eS bS H1 ν.ext kz
theorem JH (ε:m5 x s sp) (c0:¬gB t) (Δ:Holds S B σ H)
  (dJ:∀φ υ,Seen (bB x s t v 1) s sp φ υ->zd Q mn (bB x s t (some (φ,υ)) 1) c rest S H (.int .u64 (c7 υ))\/∃t',Act υ t υ t'/\∀cE,cE<φ->zd Q mn (bB x s t' (some (cE,υ)) 1) c rest S H (.int .u64 (c7 υ))) :
  cG Tryz.prog Q mn (bB x s t v 1) (Frame.enter Tryz.prog 168 #[ptr s 0] .normal) (c::rest) H:=by
 letI:bq:=fi;have δ:=ε.seq;refine V.rk (z:=one _) (vs:=[ptr s 0]) Tryz.func168 rfl Δ (by simp[Tryz.ntmps168]) ?_ _ rfl;refine V.cl (δ _ _ _) ?_;refine ih ?_;refine W.cC ?_;refine fM [0,1,2] [3,4] ?_;refine W.stop ?_;refine V.Jm (δ _ _ _).here (Nat.succ_pos _) (sp:=sp) ε.spec (by rw[cm];exact c0) ⟨⟨rfl,rfl,by simp[Frame.enter],rfl⟩,Py,⟨_,rfl⟩,rfl,rfl,rfl⟩ (λφ υ ξ=>(dJ φ υ ξ).imp (λh=>?_) (λ⟨t',Ι,ax⟩=>⟨t',by rw[cm];exact Ι,λcE eS=>?_⟩))
 ·unfold jb;rw[ln];refine V.cl (δ _ _ _) ?_;refine W.part (A:=[]) Φ [4] [] rfl λΚ κ=>?_;(try simp);(repeat (rw[ah];simp));(try simp);apply κ;refine W.bL (.stop ?_);refine V.tR (δ _ _ _) rfl rfl rfl rfl Tryz.func168 rfl rfl λbS b1 H1 ν kz=>?_;obtain rfl:b1=[]:=dO.1 kz.len;rintro y rfl;exact h bS H1 ν.ext kz
 ·rw[hJ];refine V.cl (δ _ _ _) ?_;refine W.part (A:=[]) Φ [4] [] rfl λΚ κ=>?_;(try simp);(repeat (rw[ah];simp));(try simp);apply κ;refine W.bL (.stop ?_);refine V.tR (δ _ _ _) rfl rfl rfl rfl Tryz.func168 rfl rfl λbS b1 H1 ν kz=>?_;obtain rfl:b1=[]:=dO.1 kz.len;rintro y rfl;exact ax cE eS bS H1 ν.ext kz
theorem aΓ (ε:m5 x s sp) (c0:¬gB t) (Δ:Holds S B σ H) {old new:Int}
  (BA:∀φ υ,Seen (bB x s t v 1) s sp φ υ->¬c7 υ=old->zd Q mn (bB x s t (some (φ,υ)) 1) c rest S H (.bool false))
  (dJ:∀φ υ,Seen (bB x s t v 1) s sp φ υ->c7 υ=old->∃o' t',c7 o'=new/\o'.cU=υ.cU/\sD υ o'/\Act υ t o' t'/\∀cE,cE<φ->zd Q mn (bB x s t' (some (cE,o')) 1) c rest S H (.bool true)) :
  cG Tryz.prog Q mn (bB x s t v 1) (Frame.enter Tryz.prog 179 #[ptr s 0,.int .u64 old,.int .u64 new] .normal) (c::rest) H:=by
 letI:bq:=fi;have δ:=ε.seq;refine V.rk (z:=one _) (vs:=[ptr s 0,.int .u64 old,.int .u64 new]) Tryz.func179 rfl Δ (by simp[Tryz.ntmps179]) ?_ _ rfl;refine V.cl (δ _ _ _) ?_;refine ih ?_;refine W.cC ?_;refine fM [0,1,2,3,4] [5,6] ?_;refine W.stop ?_;refine V.Zz (δ _ _ _).here (Nat.succ_pos _) (sp:=sp) ε.spec (by rw[cm];exact c0) ⟨⟨rfl,rfl,by simp[Frame.enter],rfl⟩,Z3,⟨_,rfl⟩,rfl,rfl,rfl⟩ (λφ υ ξ hv=>?_) (λφ υ ξ hv=>?_)
 ·have h:=BA φ υ ξ hv;unfold jb;rw[ln];refine V.cl (δ _ _ _) ?_;refine W.part (A:=[]) Φ [6] [] rfl λΚ κ=>?_;(try simp);(repeat (rw[ah];simp));(try simp);apply κ;refine W.bL (.stop ?_);refine V.tR (δ _ _ _) rfl rfl rfl rfl Tryz.func179 rfl rfl λbS b1 H1 ν kz=>?_;obtain rfl:b1=[]:=dO.1 kz.len;rintro y rfl;exact h bS H1 ν.ext kz
 ·obtain⟨o',t',U,γ,ο,Ι,ax⟩:=dJ φ υ ξ hv;refine⟨o',t',U,γ,ο,by rw[cm];exact Ι,λcE eS=>?_⟩;rw[hJ];refine V.cl (δ _ _ _) ?_;refine W.part (A:=[]) Φ [6] [] rfl λΚ κ=>?_;(try simp);(repeat (rw[ah];simp));(try simp);apply κ;refine W.bL (.stop ?_);refine V.tR (δ _ _ _) rfl rfl rfl rfl Tryz.func179 rfl rfl λbS b1 H1 ν kz=>?_;obtain rfl:b1=[]:=dO.1 kz.len;rintro y rfl;exact ax cE eS bS H1 ν.ext kz
end
theorem gd.gG {m nt:Nat} {S aJ:aO} {B:a0} {H H':Γ} {env:ab} {t:Array Value} (h:gd m nt S B H [] env t) (he:∀p∈env,∃v,p.2=θ.z v) (Δ:Holds aJ [] [] H'):gd 0 nt aJ [] H' [] env t:=⟨Δ,BM he h.cH,h.size,Nat.le_refl _⟩
theorem cG.JI [bq] {P:Program} {Q:Value->Prop} {mn:Bool} {x:a7} {c b:Frame} {rest:List Frame} {H:Γ} {t:Array Value} {k:List Item} {fn:Func} {f:FuncId} (δ:Seq (one x)) (iv:Seq (one {x with deaf:=x.deaf-1})) (hd:0<x.deaf) (hb:b.mode=.run) (cv:b.roundOf=none) (e6:b.defers=[Go.Conc.dcall f #[]]) (ht:b.kind=.normal) (bR:P.funcs[b.fn]?=some fn) (fs:fn.results=#[])
  (he:Entry P f (λ_=>do mark .enable;pure Extern.Race.none_)) (h:cG P Q mn {x with deaf:=x.deaf-1} (c.finish (.tuple #[])) rest H):cG P Q mn x (aD b t (.code .ret::k)) (c::rest) H:=by
 refine aV.ret (x:=one x) δ hb cv (λy Μ=>?_) x rfl;cases Μ;refine cG.ZF δ.here hd hb cv e6 he ?_;refine aV.back (f:={aD {b with defers:=[]} t (.code .ret::k) with mode:=.returning}) (x:=one {x with deaf:=x.deaf-1}) iv rfl rfl (.inl ht) bR ?_ _ rfl;rw[results_none fs];refine χ.pure' (λy Μ=>?_);cases Μ;exact h
section
variable {Q:Value->Prop} {mn:Bool} {x:a7} {c:Frame} {rest:List Frame} {S:aO} {B:a0} {σ:ac} {H:Γ} {s n p:Nat} {sp:Spec} {v:Option (Nat×aW)} {t:Tok}
theorem aΔ (ε:m5 x s sp) (Θ:n<sp.top) (Δ:Holds S B σ H)
  (Ν:∀v,zd Q mn (bB x s (.par (n+1) (p+1) .add) v 0) c rest S H (.tuple #[])) :
  cG Tryz.prog Q mn (bB x s (.par n p .add) v 0) (Frame.enter Tryz.prog 140 #[ptr s 0,.int .i64 1] .normal) (c::rest) H:=by
 letI:bq:=fi;have δ:=ε.seq;refine V.rk (z:=one _) (vs:=[ptr s 0,.int .i64 1]) Tryz.func140 rfl Δ (by simp[Tryz.ntmps140]) ?_ _ rfl;refine V.cl (δ _ _ _) ?_;refine ih ?_;refine W.cC (.stop ?_);refine V.disable (δ _ _ _).here ⟨⟨rfl,rfl,by simp[Frame.enter],rfl⟩,BF,⟨_,rfl⟩,rfl,rfl,rfl⟩ ?_;rw[BB];refine V.cl (δ _ _ _) ?_;refine W.bL ?_;refine da ?_;refine W.cC (.stop ?_);refine V.Jp (δ _ _ _) ⟨rfl,rfl,by simp[Frame.enter],rfl⟩ rfl rfl rfl ?_;refine V.cl (δ _ _ _) ?_;refine W.bL ?_;refine ih ?_;refine W.cC (.stop ?_);refine V.Fw (δ _ _ _) (vs:=[]) ⟨⟨rfl,rfl,by simp[Frame.enter],rfl⟩,Pv,⟨_,rfl⟩,rfl,rfl,rfl⟩ ?_;refine V.cl (δ _ _ _) ?_;refine W.bL ?_;refine ih ?_;refine W.cC ?_;refine W.part (A:=[]) Φ [0,1,2,3,4,5] [6,7] rfl λΚ κ=>?_;(try simp);(repeat (rw[ah];simp[PU,PV]));(try simp[PU,PV]);apply κ;refine W.stop ?_;refine V.call (δ _ _ _) ⟨rfl,rfl,by simp[Frame.enter],rfl⟩ rfl rfl rfl ⟨_,Tryz.func166,rfl,rfl⟩ λbS b1 H1 t1 p8 ν ω hv=>?_;obtain rfl:=nQ (l:=[ptr s 0,.int .u64 4294967296]) hv;obtain rfl:b1=[]:=dO.1 ω.holds.len;rintro y rfl;refine aΒ ε id ω.holds λφ υ ξ=>?_;have ψ:=ξ.j7.tU;rw[cm] at ψ;obtain⟨aa,ai,aZ,cn,gr⟩:=ψ.add n p rfl;have hk:=FK ε ξ.spec;have r9:n<υ.top:=by rw[show υ.top=sp.top by rw[<-ξ.spec]];exact Θ
 have small:∀a b c d:Nat,a=b+1->b<=c->c<d->d<7->a<8/\b<7/\0<a/\¬a=0:=λa b c d U γ ο Ι=>J;obtain⟨cc,lZ⟩:=aF (υ.cnt+1);obtain⟨k1,bT,qS,mε⟩:=small cc υ.cnt n υ.top lZ gr r9 hk;have rW:c7 {υ with cnt:=cc}=iW cc 0:=by rw[vB];simp only[aa]
 refine⟨{υ with cnt:=cc},.par (n+1) (p+1) .add,?_,rfl,⟨rfl,rfl,rfl⟩,by rw[lZ];exact .add r9,λcE eS c8 bN mb jX=>?_⟩
 ·rw[rW,vB,aa,aψ υ.cnt bT 0 br,lZ]
 have f1:=FH cc k1 0 br
 have f2:=FI cc k1 0 br
 have f3:=FJ cc k1 0 br;rw[rW];generalize iW cc 0=w at f1 f2 f3;rw[jl rfl];refine V.here (x:=one _) (m:=0) (nt:=117) ?_ ((ω.put (a:=.z (.int .u64 w)) rfl (.z _)).gG η jX) _ rfl;have fin:∀(v:Option (Nat×aW)) (env:ab) (K:List Item),V Tryz.prog Q mn (one (bB x s (.par (n+1) (p+1) .add) v 1)) {Frame.enter Tryz.prog 140 #[ptr s 0,.int .i64 1] .normal with defers:=[Go.Conc.dcall 161 #[]]} (c::rest) 117 ⟨c8,[],bN,[],0⟩ (.code .ret::K) env []:=λv env K lI lJ j4 t3 ik fv=>by
  rintro y rfl;obtain rfl:lJ=[]:=dO.1 fv.holds.len;exact cG.JI (δ _ _ _) (δ _ _ 0) (Nat.succ_pos _) rfl rfl rfl rfl Tryz.func140 rfl vx (Ν v lI j4 ((ν.ext.trans mb).trans ik.ext) fv.holds)
 refine V.cl (δ _ _ _) ?_;refine W.part (A:=[]) Φ [7] [] rfl λΚ κ=>?_;(try simp);(repeat (rw[ah];simp));(try simp);apply κ;refine W.bL ?_;by_cases U:cc=1
 ·refine ij (ς f1 (ς f2 (ς f3 (ς @JG U)))) ?_;refine W.cC ?_;refine fM [0,1,2] [3,4] ?_;refine W.stop ?_;refine V.conv (δ _ _ _).here (sp:=sp) ε.spec (by rw[cm];exact id) ⟨rfl,rfl,by simp[Frame.enter],rfl⟩ rfl rfl rfl PB vy PC rfl (λυ w Β bJ=>⟨_,bJ.aa⟩) (λφ υ ξ=>?_);unfold jb;rw[ln];refine V.Zx ε.rel cm η ⟨⟨rfl,rfl,by simp[Frame.enter],rfl⟩,Z1,⟨_,rfl⟩,rfl,rfl,rfl⟩ ?_;refine V.cl (δ _ _ _) ?_;refine W.bL ?_;refine ij (ς f1 (ς f2 (ς f3 (ς @JG U)))) ?_;exact .stop (fin _ _ _)
 ·have yj:¬(cc:Int)=1:=λh=>U (by exact_mod_cast h);refine ij (ς f1 (ς f2 (ς f3 (ς @JG (ς U (ς yj qS)))))) ?_;exact .stop (fin _ _ _)
end
noncomputable def BR:Code:=Tryz.f146.body.getD .skip
noncomputable def oF:Code:=eh [1,0,0] BR
noncomputable def xx:List Item:=[.inLoop oF,.inBlock 0]
theorem PW:eG .u64 0 2147483648=0:=br
theorem PX:eG .u64 0 2147483647=0:=br
theorem FL:IntKind.u32.wrap 0=0:=br
theorem PY:IntKind.i32.wrap 0=0:=br
section
variable {Q:Value->Prop} {mn:Bool} {x:a7} {c:Frame} {rest:List Frame} {S:aO} {B:a0} {σ:ac} {H:Γ} {s n p:Nat} {sp:Spec} {v:Option (Nat×aW)} {t:Tok}
abbrev vC (Q:Value->Prop) (mn:Bool) (x:a7) (c:Frame) (rest:List Frame) (S:aO) (H:Γ) (s:Nat) (t:Tok) (v:Option (Nat×aW)) (d:Nat) (K:List Item) (env:ab):Prop:=
 V Tryz.prog Q mn (one (bB x s t v d)) (Frame.enter Tryz.prog 146 #[ptr s 0] .normal) (c::rest) 84 ⟨S,[],H,[],0⟩ K env []
def sH (Q:Value->Prop) (mn:Bool) (x:a7) (c:Frame) (rest:List Frame) (S:aO) (H:Γ) (s n:Nat) (sp:Spec):Prop:=
 ∀(aJ:aO) (H':Γ) (gL fZ:List Nat) (hq e0:Γ),Ext S [] H aJ [] H'->Holds aJ [] [] H'->gL.Perm (List.range n)->my sp.D gL hq->(sp.a4≠none->fZ.Perm (List.range n)/\sp.av fZ e0)->(sp.a4=none->e0=Γ.empty)->Apart H' hq->Apart H' e0->Apart hq e0->(∃w,Fits H' w/\Fits hq w/\Fits e0 w)->
  ∀(v:Option (Nat×aW)) (c8:aO) (bN:Γ),Ext fE [] (join (join H' hq) e0) c8 [] bN->cG Tryz.prog Q mn (bB x s (.par n 0 .bH) v 0) (c.finish (.tuple #[])) rest bN
theorem sH.later {c8:aO} {bN:Γ} (h:sH Q mn x c rest S H s n sp) (he:Ext S [] H c8 [] bN):sH Q mn x c rest c8 bN s n sp:=
 λaJ H' gL fZ hq e0 a1 bb cP gJ ix nh wc uF zU GX v lI j4 zV=>h aJ H' gL fZ hq e0 (he.trans a1) bb cP gJ ix nh wc uF zU GX v lI j4 zV
theorem PZ (ε:m5 x s sp) (Ν:∀(v:Option (Nat×aW)) (c8:aO) (bN:Γ),Ext fE [] H c8 [] bN->cG Tryz.prog Q mn (bB x s (.par n 0 .bH) v 0) (c.finish (.tuple #[])) rest bN) {K:List Item} {env:ab}:vC Q mn x c rest fE H s (.par n 0 .bH) v 0 (.code .ret::K) env:=by
 letI:bq:=fi;have δ:=ε.seq;refine V.Jo (δ _ _ _) rfl rfl rfl rfl Tryz.func146 rfl λbS b1 H1 ν Δ=>?_;obtain rfl:b1=[]:=dO.1 Δ.len;rintro y rfl;exact Ν v bS H1 ν.ext
theorem P0 (ε:m5 x s sp) (di:sH Q mn x c rest S H s n sp):vC Q mn x c rest S H s (.par n 0 .nb) v 1 (.code (eh [0,1] oF)::.inBlock 1::xx) [(0,.z (ptr s 0)),(2,.z (.int .u64 0))]:=by
 letI:bq:=fi;have δ:=ε.seq;refine V.cl (δ _ _ _) ?_;unfold oF BR;refine ij (ς @PW (ς @PX (ς @FL @PY))) ?_;refine W.cC (.stop ?_);refine V.enable (δ _ _ _).here (Nat.succ_pos _) ⟨⟨rfl,rfl,by simp[Frame.enter],rfl⟩,vx,⟨_,rfl⟩,rfl,rfl,rfl⟩ ?_;rw[BC];refine V.cl (δ _ _ _) ?_;refine W.bL ?_;refine W.cC ?_;refine fM [0] [1,2] ?_;refine W.stop ?_;refine V.conv (δ _ _ _).here (sp:=sp) ε.spec (by rw[cm];exact id) ⟨rfl,rfl,by simp[Frame.enter],rfl⟩ rfl rfl rfl Jy vy Jz rfl (λυ w Β bJ=>⟨_,bJ.cN⟩) (λφ υ ξ=>?_);unfold jb;rw[ln];refine V.Df ε.rel rfl (sp:=sp) ε.spec cm (.inl rfl) ⟨⟨rfl,rfl,by simp[Frame.enter],rfl⟩,Fz,⟨_,rfl⟩,rfl,rfl,rfl⟩ λbS b1 H1 t1 gL fZ hq e0 ν ω bE c6 fX nq vi JJ JK JL=>?_;rw[hJ];obtain rfl:b1=[]:=dO.1 ω.holds.len;have Ν:=di bS H1 gL fZ hq e0 ν.ext ω.holds bE c6 fX nq vi JJ JK JL;refine V.here (x:=one _) (S:=fE) (B:=[]) (σ:=[]) (m:=0) (nt:=84) ?_ (ω.none η) _ rfl;refine V.cl (δ _ _ _) ?_;refine W.bL ?_;refine ij (ς @PW (ς @PX (ς @FL @PY))) ?_;exact .stop (PZ ε Ν)
theorem aΕ (ε:m5 x s sp) (di:sH Q mn x c rest S H s n sp):vC Q mn x c rest S H s (.par n 0 .w4) v 1 (.code (eh [0,1,1,1,1,1,0,1,1,1,1] oF)::.inBlock 1::xx) [(0,.z (ptr s 0))]:=by
 letI:bq:=fi;have δ:=ε.seq;refine V.cl (δ _ _ _) ?_;unfold oF BR;refine da ?_;refine W.cC ?_;refine fM [0,1,2] [3,4,5] ?_;refine W.stop ?_;refine V.call (δ _ _ _) ⟨rfl,rfl,by simp[Frame.enter],rfl⟩ rfl rfl rfl ⟨_,Tryz.func168,rfl,rfl⟩ λbS b1 H1 t1 p8 ν ω hv=>?_;obtain rfl:=nQ (l:=[ptr s 0]) hv;obtain rfl:b1=[]:=dO.1 ω.holds.len;rintro y rfl;refine JH ε id ω.holds λφ υ ξ=>.inl λc8 bN mb jX=>?_;have ψ:=ξ.j7.tU;rw[cm] at ψ;obtain⟨aa,ai,aZ⟩:=ψ.fin n 0 (.inr (.inl rfl));have Ω:c7 υ=0:=by simp only[c7,aa,aZ];rfl
 rw[Ω,jl rfl];have ze:=di.later (ν.ext.trans mb);refine V.here (x:=one _) (m:=0) (nt:=84) ?_ ((ω.put (a:=.z (.int .u64 0)) rfl (.z _)).gG η jX) _ rfl;refine V.cl (δ _ _ _) ?_;refine W.part (A:=[]) Φ [4,5] [] rfl λΚ κ=>?_;(try simp);(repeat (rw[ah];simp));(try simp);apply κ;refine W.bL ?_;refine ih ?_;refine W.cC (.stop ?_);refine V.enable (δ _ _ _).here (Nat.succ_pos _) ⟨⟨rfl,rfl,by simp[Frame.enter],rfl⟩,vx,⟨_,rfl⟩,rfl,rfl,rfl⟩ ?_;rw[BC];refine V.cl (δ _ _ _) ?_;refine W.bL ?_;refine W.cC ?_;refine fM [0] [1,2] ?_;refine W.stop ?_;refine V.conv (δ _ _ _).here (sp:=sp) ε.spec (by rw[cm];exact id) ⟨rfl,rfl,by simp[Frame.enter],rfl⟩ rfl rfl rfl Jy vy Jz rfl (λυ w Β bJ=>⟨_,bJ.cN⟩) (λφ υ ξ=>?_);unfold jb;rw[ln];refine V.Df ε.rel rfl (sp:=sp) ε.spec cm (.inr rfl) ⟨⟨rfl,rfl,by simp[Frame.enter],rfl⟩,Fz,⟨_,rfl⟩,rfl,rfl,rfl⟩ λbS b1 H1 t1 gL fZ hq e0 ν ω bE c6 fX nq vi JJ JK JL=>?_;rw[hJ];obtain rfl:b1=[]:=dO.1 ω.holds.len;have Ν:=ze bS H1 gL fZ hq e0 ν.ext ω.holds bE c6 fX nq vi JJ JK JL;refine V.here (x:=one _) (S:=fE) (B:=[]) (σ:=[]) (m:=0) (nt:=84) ?_ (ω.none η) _ rfl;refine V.cl (δ _ _ _) ?_;refine W.bL ?_;refine ih ?_;exact .stop (PZ ε Ν)
theorem aΖ {a b d:Nat} (h:a<=b) (U:b<7):a<8/\a<7:=J
theorem aΗ {a b:Nat} (h:a<b):¬b=0:=J
theorem aΘ (ε:m5 x s sp) (di:sH Q mn x c rest S H s n sp) {φ:Nat} {υ:aW}:vC Q mn x c rest S H s (.par n 0 .w3) (some (φ,υ)) 1 (.code (eh [0,1,1,1,1,1,0,1,1,1,0] oF)::.code (eh [0,1,1,1,1,1,0,1,1,1,1] oF)::.inBlock 1::xx) [(0,.z (ptr s 0)),(5,.z (.bool false))]:=by
 letI:bq:=fi;have δ:=ε.seq;have woken:∀v,vC Q mn x c rest S H s (.par n 0 .w4) v 1 (.code (eh [0,1,1,1,1,1,0,1,1,1,1] oF)::.inBlock 1::xx) [(0,.z (ptr s 0))]:=λv=>aΕ ε di;refine V.cl (δ _ _ _) ?_;unfold oF BR;refine W.cC ?_;refine fM [0,1,2,3] [4] ?_;refine W.stop ?_;refine V.ZB (δ _ _ _).here (sp:=sp) ε.spec (by rw[cm];exact id) (vs:=[ptr s 1,.bool false]) rfl (λbs jS=>by rw[BD jS];exact ε.still bs jS) ⟨⟨rfl,rfl,by simp[Frame.enter],rfl⟩,Z8,⟨_,rfl⟩,rfl,rfl,rfl⟩ (λhL υ ξ h=>by rw[cm];exact h) (λhL υ ξ h=>?_);refine⟨{υ with cU:=υ.cU-1},.par n 0 .w4,rfl,rfl,⟨rfl,rfl,rfl⟩,by rw[cm];exact .wake h,λiG eS=>?_⟩;rw[hJ];refine V.cl (δ _ _ _) ?_;refine W.bL ?_;refine W.forget [(0,.z (ptr s 0))] η (.stop ?_);exact woken _
theorem aΙ (ε:m5 x s sp):∀(N φ:Nat) (υ:aW) (S:aO) (H:Γ),φ<N->υ.toSpec=sp->0<υ.cnt->υ.cnt<=υ.top->υ.wt=0->sH Q mn x c rest S H s n sp->
  vC Q mn x c rest S H s (.par n 0 .add) (some (φ,υ)) 1 (.code (eh [0,1] oF)::.inBlock 1::xx) [(0,.z (ptr s 0)),(2,.z (.int .u64 (c7 υ)))]:=by
 letI:bq:=fi;have δ:=ε.seq;intro N
 induction N with
 | zero=>intro φ υ S H h;exact absurd h (Nat.not_lt_zero _)
 | succ N BK=>
  intro φ υ S H cK Β C9 xy rU di;have hk:=FK ε Β;obtain⟨k1,bT⟩:=aΖ (d:=0) xy hk;have f1:=FH υ.cnt k1 0 br;have f2:=FI υ.cnt k1 0 br;have f3:=FJ υ.cnt k1 0 br;have f4:=aΑ υ.cnt k1;have oU:c7 υ=iW υ.cnt 0:=by rw[vB,rU]
  have bx:¬υ.cnt=0:=aΗ C9
  have xm:¬(υ.cnt:Int)=0:=λh=>bx (by exact_mod_cast h);rw[<-oU] at f1 f2 f3 f4;have sleep:∀(S H) (φ:Nat) (υ:aW),sH Q mn x c rest S H s n sp->vC Q mn x c rest S H s (.par n 0 .w3) (some (φ,υ)) 1 (.code (eh [0,1,1,1,1,1,0,1,1,1,0] oF)::.code (eh [0,1,1,1,1,1,0,1,1,1,1] oF)::.inBlock 1::xx) [(0,.z (ptr s 0)),(5,.z (.bool false))]:=λS H φ υ di=>aΘ ε di;have nb:∀(S H v),sH Q mn x c rest S H s n sp->vC Q mn x c rest S H s (.par n 0 .nb) v 1 (.code (eh [0,1] oF)::.inBlock 1::xx) [(0,.z (ptr s 0)),(2,.z (.int .u64 0))]:=λS H v di=>P0 ε di;refine V.cl (δ _ _ _) ?_;unfold oF BR;refine ij (ς f2 (ς f3 (ς bx xm))) ?_;refine W.cC ?_;refine W.part (A:=[]) Φ [0,1,2,3,4,5] [6] rfl λΚ κ=>?_;(try simp);(repeat (rw[ah];simp[f4]));(try simp[f4]);apply κ;refine W.stop ?_;refine V.call (δ _ _ _) ⟨rfl,rfl,by simp[Frame.enter],rfl⟩ rfl rfl rfl ⟨_,Tryz.func179,rfl,rfl⟩ λbS b1 H1 t1 p8 ν ω hv=>?_;obtain rfl:=nQ (l:=[ptr s 0,.int .u64 (c7 υ),.int .u64 (iW υ.cnt 1)]) hv;obtain rfl:b1=[]:=dO.1 ω.holds.len;rintro y rfl;refine aΓ ε id ω.holds (λhL gx ξ hv c8 bN mb jX=>?_) (λhL gx ξ hv=>?_)
  ·have qW:=ξ.view φ υ qj
   have ax:hL<N:=by
    rcases Nat.lt_or_ge hL φ with h|h
    ·exact Nat.lt_of_lt_of_le h (Nat.le_of_lt_succ cK)
    ·exact absurd (by rw[qW.2 (Nat.le_antisymm qW.1 h)]) hv
   have ze:=di.later (ν.ext.trans mb);rw[jl rfl];refine V.here (x:=one _) (m:=0) (nt:=84) ?_ ((ω.put (a:=.z (.bool false)) rfl (.z _)).gG η jX) _ rfl;refine V.cl (δ _ _ _) ?_;refine W.bL ?_;refine ay rfl ?_;refine da ?_;refine W.inLoop ?_;refine W.forget [(0,.z (ptr s 0))] η ?_;refine da ?_;refine W.cC ?_;refine fM [0,1,2] [3,4] ?_;refine W.stop ?_;refine V.call (δ _ _ _) ⟨rfl,rfl,by simp[Frame.enter],rfl⟩ rfl rfl rfl ⟨_,Tryz.func168,rfl,rfl⟩ λlI lJ j4 t3 JM ik fv tL=>?_;obtain rfl:=nQ (l:=[ptr s 0]) tL;obtain rfl:lJ=[]:=dO.1 fv.holds.len;rintro y rfl;refine JH ε id fv.holds λiG gk de=>?_;have fl:=de.j7.tU;rw[cm] at fl;obtain⟨e2,dq,hU,u5,u6⟩:=fl.add n 0 rfl;have yU:=de.view hL gx qj;by_cases ao:gk.cnt=0
   ·refine .inr ⟨.par n 0 .nb,.thru ao,λza aΚ kI kJ pv lU=>?_⟩;have Ω:c7 gk=0:=by simp only[c7,e2,ao];rfl
    rw[Ω,jl rfl];have xz:=ze.later (ik.ext.trans pv);refine V.here (x:=one _) (m:=0) (nt:=84) ?_ ((fv.put (a:=.z (.int .u64 0)) rfl (.z _)).gG η lU) _ rfl;refine V.cl (δ _ _ _) ?_;refine W.part (A:=[]) Φ [4] [] rfl λΚ κ=>?_;(try simp);(repeat (rw[ah];simp));(try simp);apply κ;refine W.bL ?_;refine W.forget [(0,.z (ptr s 0)),(2,.z (.int .u64 0))] η (.stop ?_);exact nb _ _ _ xz
   ·refine .inl λkI kJ pv lU=>?_;rw[jl rfl];have xz:=ze.later (ik.ext.trans pv);refine V.here (x:=one _) (m:=0) (nt:=84) ?_ ((fv.put (a:=.z (.int .u64 (c7 gk))) rfl (.z _)).gG η lU) _ rfl;refine V.cl (δ _ _ _) ?_;refine W.part (A:=[]) Φ [4] [] rfl λΚ κ=>?_;(try simp);(repeat (rw[ah];simp));(try simp);apply κ;refine W.bL ?_;refine W.forget [(0,.z (ptr s 0)),(2,.z (.int .u64 (c7 gk)))] η (.stop ?_);exact BK iG gk kI kJ (Nat.lt_of_le_of_lt yU.1 ax) de.spec (Nat.pos_of_ne_zero ao) fl.cnt e2 xz
  ·have jC:=ξ.j7.tU;rw[cm] at jC;obtain⟨e2,dq,hU,u5,u6⟩:=jC.add n 0 rfl;have pO:gx.cnt=υ.cnt:=by rw[oU,vB,e2] at hv;simp only[iW] at hv;omega
   refine⟨{gx with wt:=1},.par n 0 .w3,?_,rfl,⟨rfl,rfl,rfl⟩,.LW (by rw[pO];exact C9),λiG mζ c8 bN mb jX=>?_⟩
   ·rw[vB];simp only[pO]
   rw[jl rfl];have ze:=di.later (ν.ext.trans mb);refine V.here (x:=one _) (m:=0) (nt:=84) ?_ ((ω.put (a:=.z (.bool true)) rfl (.z _)).gG η jX) _ rfl;refine V.cl (δ _ _ _) ?_;refine W.bL ?_;refine aC rfl ?_;refine ih ?_;refine W.cC ?_;refine fM [0,1,2] [3,4] ?_;refine W.stop ?_;refine V.conv (δ _ _ _).here (sp:=sp) ε.spec (by rw[cm];exact id) ⟨rfl,rfl,by simp[Frame.enter],rfl⟩ rfl rfl rfl PB vy PC rfl (λυ w Β bJ=>⟨_,bJ.aa⟩) (λφ υ ξ=>?_);unfold jb;rw[ln];refine V.Zy ε.rel cm η ⟨⟨rfl,rfl,by simp[Frame.enter],rfl⟩,Z2,⟨_,rfl⟩,rfl,rfl,rfl⟩ ?_;refine V.cl (δ _ _ _) ?_;refine W.bL ?_;refine ij f1 ?_;refine W.forget [(0,.z (ptr s 0)),(5,.z (.bool false))] η (.stop ?_);exact sleep _ _ _ _ ze
theorem aΜ (ε:m5 x s sp) (Δ:Holds S B σ H) (di:sH Q mn x c rest S H s n sp) :
  cG Tryz.prog Q mn (bB x s (.par n 0 .add) v 0) (Frame.enter Tryz.prog 146 #[ptr s 0] .normal) (c::rest) H:=by
 letI:bq:=fi;have δ:=ε.seq;refine V.rk (z:=one _) (vs:=[ptr s 0]) Tryz.func146 rfl Δ (by simp[Tryz.ntmps146]) ?_ _ rfl;refine V.cl (δ _ _ _) ?_;refine ih ?_;refine W.cC (.stop ?_);refine V.disable (δ _ _ _).here ⟨⟨rfl,rfl,by simp[Frame.enter],rfl⟩,BF,⟨_,rfl⟩,rfl,rfl,rfl⟩ ?_;rw[BB];refine V.cl (δ _ _ _) ?_;refine W.bL ?_;refine da ?_;refine W.loop ?_;refine da ?_;refine W.cC ?_;refine fM [0,1,2] [3,4] ?_;refine W.stop ?_;refine V.call (δ _ _ _) ⟨rfl,rfl,by simp[Frame.enter],rfl⟩ rfl rfl rfl ⟨_,Tryz.func168,rfl,rfl⟩ λlI lJ j4 t3 JM ik fv tL=>?_;obtain rfl:=nQ (l:=[ptr s 0]) tL;obtain rfl:lJ=[]:=dO.1 fv.holds.len;rintro y rfl;refine JH ε id fv.holds λiG gk de=>?_;have fl:=de.j7.tU;rw[cm] at fl;obtain⟨e2,dq,hU,u5,u6⟩:=fl.add n 0 rfl;by_cases ao:gk.cnt=0
 ·refine .inr ⟨.par n 0 .nb,.thru ao,λza aΚ kI kJ pv lU=>?_⟩;have Ω:c7 gk=0:=by simp only[c7,e2,ao];rfl
  rw[Ω,jl rfl];have xz:=di.later (ik.ext.trans pv);refine V.here (x:=one _) (m:=0) (nt:=84) ?_ ((fv.put (a:=.z (.int .u64 0)) rfl (.z _)).gG η lU) _ rfl;refine V.cl (δ _ _ _) ?_;refine W.part (A:=[]) Φ [4] [] rfl λΚ κ=>?_;(try simp);(repeat (rw[ah];simp));(try simp);apply κ;refine W.bL ?_;refine W.forget [(0,.z (ptr s 0)),(2,.z (.int .u64 0))] η (.stop ?_);exact P0 ε xz
 ·refine .inl λkI kJ pv lU=>?_;rw[jl rfl];have xz:=di.later (ik.ext.trans pv);refine V.here (x:=one _) (m:=0) (nt:=84) ?_ ((fv.put (a:=.z (.int .u64 (c7 gk))) rfl (.z _)).gG η lU) _ rfl;refine V.cl (δ _ _ _) ?_;refine W.part (A:=[]) Φ [4] [] rfl λΚ κ=>?_;(try simp);(repeat (rw[ah];simp));(try simp);apply κ;refine W.bL ?_;refine W.forget [(0,.z (ptr s 0)),(2,.z (.int .u64 (c7 gk)))] η (.stop ?_);exact aΙ ε (iG+1) iG gk kI kJ (Nat.lt_succ_self _) de.spec (Nat.pos_of_ne_zero ao) fl.cnt e2 xz
end
end Go.TL
namespace Go.TL
open Go.Conc Go.Proofs
open Go.ConcN (sumTo upd sumTo_upd upd_ne upd_same sumTo_congr le_sumTo)
variable [bq]
def cB.zf:cB->θ->Prop
 | .ok a,b=>a=b
 | .b' p r,b=>p/\r.zf b
 | .bad,_=>False
def jP (P:Program) {α:Type} (s:Sem α) (a:α):Prop:=∀w,s.run P w=.ok a w/\∀es,s.events P w es=es
section
variable {P:Program} {T:bk} {α β:Type}
theorem jP.pure (a:α):jP P (Pure.pure a) a:=λw=>⟨η,λes=>η⟩
theorem jP.bind {s:Sem α} {f:α->Sem β} {a:α} {b:β} (h:jP P s a) (k:jP P (f a) b):jP P (s >>= f) b:=λw=>⟨by simp[(h w).1,(k w).1,Result.andThen],λes=>by simp[(h w).1,(h w).2,(k w).2,Result.evThen]⟩
theorem jP.program:jP P Go.program P:=λw=>⟨η,λes=>η⟩
theorem jP.underlying {t:TypeId} {d:TypeDesc} (h:P.underlying t=some d):jP P (Go.underlying t) d:=λw=>⟨run_underlying h w,λes=>η⟩
theorem jP.sizeOf {t:TypeId} {i:TypeInfo} (hi:P.info? t=some i):jP P (Go.sizeOf t) i.size:=by
 unfold Go.sizeOf Go.typeInfo;refine jP.bind (jP.bind .program ?_) (jP.pure _);show jP P (match P.info? t with|some i=>Pure.pure i|none=>_) i;rw[hi];exact .pure _
theorem aΝ {op:BinOp} {ty:TypeId} {p q:Operand} {x y v:Value} (h:(tk op x y).zf (.z v)):jP P (do eqGuard op ty p q x y;binOp op ty x y) v:=by
 unfold tk at h;split at h
 case h_25=>exact h.elim
 case h_1=>
  obtain⟨U,γ⟩:=h;cases γ;have dh:¬(_:Int)<0:=Int.not_lt.2 U;simp only[eqGuard,binOp,Op.shift,dh,if_false];exact .pure _
 case h_2=>
  obtain⟨U,γ⟩:=h;cases γ;have dh:¬(_:Int)<0:=Int.not_lt.2 U;simp only[eqGuard,binOp,Op.shift,dh,if_false];exact .pure _
 case h_6=>
  split at h
  ·rename_i e;subst e;obtain⟨U,γ⟩:=h;cases γ;simp only[eqGuard,binOp,Op.intDiv,U,if_false,ne_eq,not_true_eq_false];exact .pure _
  ·exact h.elim
 case h_7=>
  split at h
  ·rename_i e;subst e;obtain⟨U,γ⟩:=h;cases γ;simp only[eqGuard,binOp,Op.intDiv,U,if_false,ne_eq,not_true_eq_false];exact .pure _
  ·exact h.elim
 case h_18=>
  obtain⟨U,γ⟩:=h;cases γ;have dh:¬((_:Int) > IntKind.i64.max):=Int.not_lt.2 U;simp only[eqGuard,binOp,Op.stringOp,dh,if_false];exact .pure _
 all_goals first
  |(cases h;exact .pure _)
  |(split at h
    ·rename_i e;subst e;cases h;simp only[eqGuard,binOp,Op.intArith,Op.intBits,Op.intCmp,ne_eq,not_true_eq_false,if_false];exact .pure _
    ·exact h.elim)
def zg (T:bk) (env:ab) (o:Oper):cB:=match o.op with
 | .move x=>.ok (aT env x)
 | .assign x=>.ok (aT env x)
 | .pick c a b=>yH (aT env c) (aT env a) (aT env b)
 | .binOp op _ x y _=>match aT env x,aT env y with
  | .z a,.z b=>tk op a b
  | _,_=>.bad
 | .unOp op _ x=>yp op (aT env x)
 | .convert s d x=>yz T s d (aT env x)
 | .nilCheck x=>match aT env x with
  | .z (.pointer (some a))=>.ok (.z (.pointer (some a)))
  | _=>.bad
 | .fieldAddr ty x f=>match aT env x with
  | .z (.pointer (some ⟨b,o',none⟩))=>match gQ T ty f with|some (o,_)=>.ok (.z (.pointer (some ⟨b,o'+o,none⟩)))|none=>.bad
  | _=>.bad
 | _=>.bad
theorem aΞ (Ν:bU P T) {env:ab} {o:Oper} {v:Value} (h:(zg T env o).zf (.z v)) {ρ:Operand->Value} (oG:∀y u,aT env y=.z u->ρ y=u):jP P (execOp ρ o) (.value v):=by
 have val:∀{s:Sem Value} {u:Value},jP P s u->jP P (do Pure.pure (Next.value (<-s))) (.value u):=λξ=>.bind ξ (.pure _);unfold zg at h;unfold execOp;split at h<;>rename_i Β<;>first|(rw[Β];simp only)|exact h.elim
 ·rw[oG _ _ h];exact .pure _
 ·rw[oG _ _ h];exact .pure _
 ·rename_i c a b;unfold yH at h;split at h
  ·rename_i bv ε;rw[oG _ _ ε];refine jP.bind (a:=bv) (jP.pure _) ?_;split at h
   ·rename_i y z Μ Ψ;cases h;rw[oG _ _ Μ,oG _ _ Ψ];cases bv<;>exact .pure _
   ·cases bv with
    | true=>rw[oG a v h];exact .pure _
    | false=>rw[oG b v h];exact .pure _
  ·exact h.elim
 ·split at h
  ·rename_i x y δ Μ;rw[oG _ _ δ,oG _ _ Μ];exact val (aΝ h)
  ·exact h.elim
 ·unfold yp at h;split at h
  ·rename_i bv hb;rw[oG _ _ hb];split at h
   ·cases h;exact val (.pure _)
   ·exact h.elim
  ·rename_i k n hb;rw[oG _ _ hb];split at h
   ·cases h;exact val (.pure _)
   ·exact h.elim
  ·exact h.elim
 ·unfold yz at h;split at h
  ·rename_i i j hi ζ;split at h
   ·rename_i k kk n hu δ;cases h;rw[oG _ _ δ];refine val ?_;unfold convert;refine .bind (.underlying (Ν _ _ hi).1.1) (.bind (.underlying (Ν _ _ ζ).1.1) ?_);rw[hu];exact .pure _
   ·exact h.elim
  ·exact h.elim
 ·split at h
  ·rename_i a δ;cases h;rw[oG _ _ δ];exact .pure _
  ·exact h.elim
 ·split at h
  ·rename_i b o' δ;rw[oG _ _ δ];split at h
   ·rename_i dR Ax Ρ;cases h;refine val ?_;unfold gQ at Ρ;split at Ρ<;>try cases Ρ
    rename_i i hi;split at Ρ<;>try cases Ρ
    rename_i dr hu;split at Ρ<;>try cases Ρ
    rename_i x δ;split at Ρ<;>try cases Ρ
    rename_i bz k2;split at Ρ<;>try cases Ρ
    rename_i gF;unfold Instr.fieldAt;refine .bind (.underlying (Ν _ _ hi).1.1) ?_;rw[hu];simp only[δ];refine .bind (a:=⟨b,o',none⟩) (.pure _) ?_;obtain⟨f,l',qU,_⟩:=(Ν _ _ k2).2;refine .bind (a:=⟨b,o'+x.offset,none⟩) ?_ (.pure _);unfold fieldPlace;refine .bind (.sizeOf l') ?_;rw[qU,if_neg gF,uZ];exact .pure _
   ·exact h.elim
  ·exact h.elim
end
theorem aΟ (vs:List Value) {nt:Nat} (Θ:vs.length<=nt):dB fE [] [] (entry 0 (vs.map θ.z)) (vs.toArray++Array.replicate (nt-vs.length) undef):=by
 have μ:gg fE [] [] (vs.map θ.z) vs.toArray:=⟨η,λi a v U γ=>by
  simp only[List.getElem?_map,List.getElem?_toArray] at U γ;rw[γ] at U;cases U;exact .z v⟩
 have:=(gd.enter (zc Γ.empty) (m:=0) (nt:=nt) μ (Nat.le_refl _) (by simpa using Θ)).cH;simpa using this
def JN (P:Program) (mn:Bool) (dL:Goroutine->Prop):Prop:=∀g g',jA g->(∀w,stepG P mn g w=.go g' w #[])->dL g'->dL g
def aj (dL:Goroutine->Prop) (b:Frame) (cs:List Frame) (nt:Nat) (k:List Item) (env:ab):Prop:=∀t:Array Value,t.size=nt->dB fE [] [] env t->dL (Go.Conc.G (aD b t k) cs)
def nU (T:bk) (nt:Nat) (ops:Array Oper):List Nat->ab->(ab->Prop)->Prop
 | [],env,K=>K env
 | i::is,env,K=>gu ops[i]? λo=>hD nt o=true/\gu (ft env ops o) λw=>
   iE w (nU T nt ops is (b7 o env .cz) K) (∃v,(zg T env o).zf (.z v)/\nU T nt ops is (b7 o env (.z v)) K)
theorem xA {T:bk} {nt:Nat} {ops:Array Oper} {env:ab} {K:ab->Prop}:nU T nt ops [] env K=K env:=Eq.trans rfl rfl
def xB (T:bk) (nt:Nat) (ops:Array Oper) (is:List Nat) (o:Oper) (env:ab) (K:ab->Prop):cB->Prop
 | .ok (.z v)=>nU T nt ops is (b7 o env (.z v)) K
 | .b' p (.ok (.z v))=>p/\nU T nt ops is (b7 o env (.z v)) K
 | _=>False
theorem aΡ {T:bk} {nt:Nat} {ops:Array Oper} {is:List Nat} {o:Oper} {env:ab} {K:ab->Prop} {v:Value}:xB T nt ops is o env K (.ok (.z v))=nU T nt ops is (b7 o env (.z v)) K:=Eq.trans rfl rfl
theorem aΤ {T:bk} {nt:Nat} {ops:Array Oper} {is:List Nat} {o:Oper} {env:ab} {K:ab->Prop} {v:Value} {p:Prop}:xB T nt ops is o env K (.b' p (.ok (.z v)))=(p/\nU T nt ops is (b7 o env (.z v)) K):=Eq.trans rfl rfl
theorem aΥ {T:bk} {nt:Nat} {ops:Array Oper} {is:List Nat} {o:Oper} {env:ab} {K:ab->Prop} {r r':cB} (h:r=r'):xB T nt ops is o env K r=xB T nt ops is o env K r':=by rw[h]
theorem aΦ {T:bk} {nt:Nat} {ops:Array Oper} {is:List Nat} {o:Oper} {env:ab} {K:ab->Prop} {r:cB} (h:xB T nt ops is o env K r):∃v,r.zf (.z v)/\nU T nt ops is (b7 o env (.z v)) K:=by
 unfold xB at h;split at h
 ·exact⟨_,rfl,h⟩
 ·exact⟨_,⟨h.1,rfl⟩,h.2⟩
 ·exact h.elim
theorem hM {T:bk} {nt:Nat} {ops:Array Oper} {i:Nat} {is:List Nat} {env:ab} {K:ab->Prop} (h:gu ops[i]? λo=>hD nt o=true/\gu (ft env ops o) λw=>iE w (nU T nt ops is (b7 o env .cz) K) (xB T nt ops is o env K (zg T env o))):nU T nt ops (i::is) env K:=by
 unfold nU;unfold gu at h ⊢;split at h
 ·exact h.elim
 rename_i o Β;refine⟨h.1,?_⟩
 replace h:=h.2
 split at h
 ·exact h.elim
 rename_i w hw;exact⟨h.1,λe=>aΦ (h.2 e)⟩
section
variable {P:Program} {T:bk} {mn:Bool} {dL:Goroutine->Prop} {b:Frame} {cs:List Frame} {nt:Nat} {k:List Item} {env:ab} {ops:Array Oper} {i:Nat} {rest:List Nat} {op:Oper}
variable (gY:JN P mn dL) (hb:b.mode=.run)
include gY hb
theorem aj.to {al:List Item} (ξ:∀t w,stepG.exec P mn true (aD b t k) cs none w=.go (Go.Conc.G (aD b t al) cs) w #[]) (h:aj dL b cs nt al env):aj dL b cs nt k env:=
 λt U γ=>gY _ _ ⟨rfl,rfl⟩ (λw=>(jY hb w).trans (ξ t w)) (h t U γ)
theorem aj.skip (h:aj dL b cs nt k env):aj dL b cs nt (.code .skip::k) env:=.to gY hb (λ_ _=>rfl) h
theorem aj.inBlock {l:Nat} (h:aj dL b cs nt k env):aj dL b cs nt (.inBlock l::k) env:=.to gY hb (λ_ _=>rfl) h
theorem aj.seq {a c:Code} (h:aj dL b cs nt (.code a::.code c::k) env):aj dL b cs nt (.code (.seq a c)::k) env:=.to gY hb (λ_ _=>rfl) h
theorem aj.block {l:Nat} {c:Code} (h:aj dL b cs nt (.code c::.inBlock l::k) env):aj dL b cs nt (.code (.block l c)::k) env:=.to gY hb (λ_ _=>rfl) h
theorem aj.loop {c:Code} (h:aj dL b cs nt (.code c::.inLoop c::k) env):aj dL b cs nt (.code (.loop c)::k) env:=.to gY hb (λ_ _=>rfl) h
theorem aj.inLoop {c:Code} (h:aj dL b cs nt (.code c::.inLoop c::k) env):aj dL b cs nt (.inLoop c::k) env:=.to gY hb (λ_ _=>rfl) h
theorem aj.cC {id:Nat} {ops:Array Oper} (h:aj dL b cs nt (.inRegion ops (idx ops.size [])::k) env):aj dL b cs nt (.code (.region id ops false)::k) env:=.to gY hb (λ_ _=>by rw[idx_eq];rfl) h
theorem aj.bL {ops:Array Oper} (h:aj dL b cs nt k env):aj dL b cs nt (.inRegion ops []::k) env:=.to gY hb (λ_ _=>rfl) h
theorem aj.exit {l:Nat} {al:List Item} (he:exitTo l k=some al) (h:aj dL b cs nt al env):aj dL b cs nt (.code (.exit l)::k) env:=by
 refine .to gY hb (λt w=>?_) h;unfold stepG.exec;simp only[aD,he,Option.elim];rfl
theorem aj.cond {c:Operand} {a e:Code} {v:Bool} (ε:aT env c=.z (.bool v)) (h:aj dL b cs nt (.code (if v then a else e)::k) env):aj dL b cs nt (.code (.cond c a e)::k) env:=by
 intro t U γ;refine gY _ _ ⟨rfl,rfl⟩ (λw=>?_) (h t U γ);rw[jY hb w];have a2:(aD b t (.code (.cond c a e)::k)).eval c=.bool v:=by rw[Am];exact Fl γ ε
 unfold stepG.exec;simp only[aD] at a2 ⊢;rw[a2];rfl
theorem aj.nV {c:Operand} {a e:Code} (ε:aT env c=.z (.bool true)) (h:aj dL b cs nt (.code a::k) env):aj dL b cs nt (.code (.cond c a e)::k) env:=.cond gY hb ε h
theorem aj.nW {c:Operand} {a e:Code} (ε:aT env c=.z (.bool false)) (h:aj dL b cs nt (.code e::k) env):aj dL b cs nt (.code (.cond c a e)::k) env:=.cond gY hb ε h
theorem JO {t:Array Value} (h:dB fE [] [] env t) (hd:hD nt op=true) (Υ:t.size=nt) {a:θ} {v:Value} (ν:aA fE [] [] a v):(put op t v).size=nt/\dB fE [] [] (b7 op env a) (put op t v):=⟨(sh h hd Υ ν).2,(sh h hd Υ ν).1⟩
theorem aj.unwanted (Β:ops[i]?=some op) (hw:ft env ops op=some false) (hd:hD nt op=true) (h:aj dL b cs nt (.inRegion ops rest::k) (b7 op env .cz)):aj dL b cs nt (.inRegion ops (i::rest)::k) env:=by
 intro t U γ;obtain⟨s1,s2⟩:=JO (b:=b) gY hb γ hd U (a:=.cz) (v:=undef) (.cz _);refine gY _ _ ⟨rfl,rfl⟩ (λw=>?_) (h _ s1 s2);rw[jY hb,<-jl Β];have wv:((ops[i]?).map (Region.wanted · (yielded ops t))).getD false=false:=by simp[Β,k5 γ hw]
 unfold stepG.exec;simp only[aD,wv];rfl
theorem aj.opn (Ν:bU P T) (cv:b.roundOf=none) (ψ:b.kind≠.early) (Β:ops[i]?=some op) (hw:ft env ops op=some true) (hd:hD nt op=true) {v:Value} (hv:(zg T env op).zf (.z v)) (h:aj dL b cs nt (.inRegion ops rest::k) (b7 op env (.z v))):aj dL b cs nt (.inRegion ops (i::rest)::k) env:=by
 intro t U γ;obtain⟨s1,s2⟩:=JO (b:=b) gY hb γ hd U (a:=.z v) (v:=v) (.z v);refine gY _ _ ⟨rfl,rfl⟩ (λw=>?_) (h _ s1 s2);have ξ:=aΞ Ν hv (ρ:=bt t) λy u Μ=>Fl γ Μ;rw[hj hb cv,hj hb cv,<-vu,stepG_value (a:=⟨t,b.defers⟩) Β (k5 γ hw) ψ (by rw[m3];exact(ξ w).1)];unfold listed;rw[m3,(ξ w).2,seen_none]
theorem aj.part (Ν:bU P T) (cv:b.roundOf=none) (ψ:b.kind≠.early) (is k6:List Nat) {l:List Nat} (π:l=is++k6) (h:∀Κ:ab->Prop,(∀env,aj dL b cs nt (.inRegion ops k6::k) env->Κ env)->nU T nt ops is env Κ):aj dL b cs nt (.inRegion ops l::k) env:=by
 subst π;have key:∀(is:List Nat) (env:ab),nU T nt ops is env (λenv=>aj dL b cs nt (.inRegion ops k6::k) env)->aj dL b cs nt (.inRegion ops (is++k6)::k) env:=by
  intro is
  induction is with
  | nil=>intro env h;exact h
  | cons i is Α=>
   intro env h;unfold nU gu at h;split at h
   ·exact h.elim
   rename_i o Β;obtain⟨hd,h⟩:=h;split at h
   ·exact h.elim
   rename_i w hw;cases w with
   | false=>exact .unwanted gY hb Β hw hd (Α _ (h.1 rfl))
   | true=>
    obtain⟨v,U,γ⟩:=h.2 rfl;exact .opn gY hb Ν cv ψ Β hw hd U (Α _ γ)
 exact key is env (h _ λ_ h=>h)
theorem aj.region (Ν:bU P T) (cv:b.roundOf=none) (ψ:b.kind≠.early) {id:Nat} (h:∀Κ:ab->Prop,(∀env,aj dL b cs nt k env->Κ env)->nU T nt ops (idx ops.size []) env Κ):aj dL b cs nt (.code (.region id ops false)::k) env:=by
 refine .cC gY hb (.part gY hb Ν cv ψ (idx ops.size []) [] η λΚ κ=>h Κ λenv Χ=>κ env (.bL gY hb Χ))
theorem aj.Fw (bY:nP b ops i op) (hw:ft env ops op=some true) (hd:hD nt op=true) {f:FuncId} {args:Array Operand} {eu:Array TypeId} (Τ:op.op=.call ⟨.value (.func f),args,eu⟩) {v:Value} (he:Entry P f (λ_=>pure v)) (h:aj dL b cs nt (.inRegion ops rest::k) (b7 op env (.z v))):aj dL b cs nt (.inRegion ops (i::rest)::k) env:=by
 intro t U γ;obtain⟨s1,s2⟩:=JO (b:=b) gY hb γ hd U (a:=.z v) (v:=v) (.z v);exact gY _ _ ⟨rfl,rfl⟩ (λw=>Fj he bY (k5 γ hw) Τ (vs:=args.map (bt t)) rfl η η η) (h _ s1 s2)
theorem aj.Jp (bY:nP b ops i op) (hw:ft env ops op=some true) (si:op.dst=none) {f:FuncId} {eu:Array TypeId} (Τ:op.op=.defer ⟨.value (.func f),#[],eu⟩)
  (h:aj dL {b with defers:=Go.Conc.dcall f #[]::b.defers} cs nt (.inRegion ops rest::k) env):aj dL b cs nt (.inRegion ops (i::rest)::k) env:=by
 intro t U γ;refine gY _ (Go.Conc.G (aD {b with defers:=Go.Conc.dcall f #[]::b.defers} t (.inRegion ops rest::k)) cs) ⟨rfl,rfl⟩ (λw=>?_) (h t U γ);rw[hj bY.run bY.ro,stepG_defer (a:=⟨t,b.defers⟩) bY.op (k5 γ hw) bY.kd Τ];have:(⟨t,Go.Conc.dcall f #[]::b.defers⟩:_root_.Go.Act).put op.dst undef=⟨t,Go.Conc.dcall f #[]::b.defers⟩:=by rw[si];rfl
 simp only[Array.map_empty,List.map_toArray,List.map_nil];rw[this,hj (b:={b with defers:=Go.Conc.dcall f #[]::b.defers}) bY.run bY.ro];rfl
theorem aj.call (bY:nP b ops i op) (hw:ft env ops op=some true) {args:Array Operand} {eu:Array TypeId} {g:FuncId} (Τ:op.op=.call ⟨.value (.func g),args,eu⟩) {vs:List Value} (ri:By env args vs) {fn:Func} {body:Code} (bR:P.funcs[g]?=some fn) (wP:(fn.name == "runtime.NumGoroutine")=false) (oq:fn.body=some body) (Θ:vs.length<=fn.ntmps)
  (h:∀t:Array Value,t.size=nt->dB fE [] [] env t->aj dL (Frame.enter P g vs.toArray .normal) (aD b t (.inRegion ops (i::rest)::k)::cs) fn.ntmps [.code body] (entry 0 (vs.map θ.z))):aj dL b cs nt (.inRegion ops (i::rest)::k) env:=by
 intro t U γ;have a5:=h t U γ (vs.toArray++Array.replicate (fn.ntmps-vs.length) undef) (by simp;omega) (aΟ vs Θ);rw[show vs.toArray++Array.replicate (fn.ntmps-vs.length) undef=vs.toArray++Array.replicate (fn.ntmps-vs.toArray.size) undef by simp,<-q5 bR oq] at a5;refine gY _ _ ⟨rfl,rfl⟩ (λw=>?_) a5;have l5:(fn.name == "runtime.NumGoroutine")=false:=wP;have Ez:fn.body.isNone=false:=by rw[oq];rfl
 have μ:(execOp (bt t) op).run P w=.ok (.enter g vs.toArray) w/\(execOp (bt t) op).events P w #[]=#[]:=by
  have e:execOp (bt t) op=callFunc g vs.toArray:=by
   unfold execOp;rw[Τ];have:args.map (bt t)=vs.toArray:=ri.bt γ;simp only[resolve];rw[this];simp[Deferred.ofValue,Go.TL.bt,invoke]
  rw[e];unfold callFunc;have U:¬fn.name = "runtime.NumGoroutine" := by simpa using l5
  simp[bR,U,oq]
 rw[hj bY.run bY.ro,stepG_enter (a:=⟨t,b.defers⟩) bY.op (k5 γ hw) bY.kd (by rw[m3];exact μ.1)];unfold listed;rw[m3,μ.2,seen_none]
theorem aj.tR (cv:b.roundOf=none) (e6:b.defers=[]) (ht:b.kind=.normal) {fn:Func} (bR:P.funcs[b.fn]?=some fn) {d:Nat} (fs:fn.results=#[.tmp d]) {v:Value} (hv:a' env d=.z v) {c:Frame}
  (h:dL (Go.Conc.G (c.finish v) cs)):aj dL b (c::cs) nt (.code .ret::k) env:=by
 intro t U γ;have mC:t.getD d undef=v:=by
  have:=γ d;rw[hv] at this;generalize t.getD d undef=u at this;cases this;rfl
 refine gY _ (Go.Conc.G {aD b t (.code .ret::k) with mode:=.returning} (c::cs)) ⟨rfl,rfl⟩ (λw=>?_) (gY _ _ ⟨rfl,rfl⟩ (λw=>?_) h)
 ·rw[jY hb];unfold stepG.exec;simp only[aD,cv];rfl
 ·rw[hj hb cv,stepG_leave (a:=⟨t,b.defers⟩) ht e6 bR (results_tmp fs _ P w) (events_results_tmp fs _ _),mC]
theorem aj.Fv (cv:b.roundOf=none) (e6:b.defers=[]) (ht:b.kind=.normal) {fn:Func} (bR:P.funcs[b.fn]?=some fn) (fs:fn.results=#[]) {c:Frame}
  (h:dL (Go.Conc.G (c.finish (.tuple #[])) cs)):aj dL b (c::cs) nt [] env:=by
 intro t U γ;refine gY _ (Go.Conc.G {aD b t [] with mode:=.returning} (c::cs)) ⟨rfl,rfl⟩ (λw=>?_) (gY _ _ ⟨rfl,rfl⟩ (λw=>?_) h)
 ·rw[jY hb];unfold stepG.exec;simp only[aD,cv];rfl
 ·rw[hj hb cv,stepG_leave (a:=⟨t,b.defers⟩) ht e6 bR (Go.results_none fs _ P w) (Go.Conc.events_results_none fs _ _)]
end
attribute [congr] aΥ
attribute [simp] xA aΡ aΤ zg
def lp (P:Program) (Q:Value->Prop) (mn:Bool) (y:a7) (g:Goroutine):Prop:=jA g/\Goes P Q mn g {y with G:=Γ.empty}
def me (P:Program) (d:Nat) (g:Goroutine):Prop:=∃n,QuitsD P n d g
theorem bA {P:Program} {Q:Value->Prop} {mn:Bool} {y:a7} (δ:fh y):JN P mn (lp P Q mn y):=λg g' U γ ο=>⟨U,Quiet.goes (.cons U γ (.nil _)) δ ο.1 ο.2⟩
theorem ev {P:Program} {d:Nat}:JN P false (me P d):=λg g' U γ ⟨n,ο⟩=>⟨n+1,.ctl U.1 γ ο⟩
section
variable {P:Program} {Q:Value->Prop} {mn:Bool} {y:a7} {b:Frame} {cs:List Frame} {nt:Nat} {k:List Item} {env:ab}
variable {ops:Array Oper} {i:Nat} {rest:List Nat} {op:Oper} {f:FuncId} {e:Array Value->Sem Value} {args:Array Operand} {vs:List Value}
theorem aj.leaves {d:Nat} (μ:y.rel=true) (Ω:∀s,Gone (y.tok s)) (hd:y.deaf=d) (h:aj (me P d) b cs nt k env):aj (lp P Q false y) b cs nt k env:=λt U γ=>by
 obtain⟨n,Θ⟩:=h t U γ;subst hd;exact⟨⟨rfl,rfl⟩,Goes.quits n μ Ω Θ⟩
theorem aj.disable (δ:fh y) (h:hI P b ops i op f (λ_=>do mark .disable;pure Extern.Race.none_) args env [] nt) (ψ:aj (lp P Q mn {y with deaf:=y.deaf+1}) b cs nt (.inRegion ops rest::k) (b7 op env po)):aj (lp P Q mn y) b cs nt (.inRegion ops (i::rest)::k) env:=λt U γ=>by
 obtain⟨s2,s1⟩:=sh γ h.dst U (a:=po) (v:=.tuple #[]) (.z _);exact⟨⟨rfl,rfl⟩,Goes.step δ.ok (.inr ⟨⟨rfl,rfl⟩,.inr (.inl ⟨Go.Conc.G (aD b (put op t (.tuple #[])) (.inRegion ops rest::k)) cs,⟨rfl,rfl⟩,.inl λw _=>
  ⟨h.step γ (Fo .disable) (Fp .disable _) (sy η),(ψ _ s1 s2).2⟩⟩)⟩)⟩
def JP (P:Program) (Q:Value->Prop) (mn:Bool) (y:a7) (b:Frame) (cs:List Frame) (nt:Nat) (ops:Array Oper) (rest:List Nat) (k:List Item) (op:Oper) (env:ab) (s φ:Nat) (υ:aW) (v:Value):Prop:=
 aj (lp P Q mn {y with view:=upd y.view s (some (φ,υ))}) b cs nt (.inRegion ops rest::k) (b7 op env (.z v))
def FM (P:Program) (Q:Value->Prop) (mn:Bool) (y:a7) (b:Frame) (cs:List Frame) (nt:Nat) (ops:Array Oper) (rest:List Nat) (k:List Item) (op:Oper) (env:ab) (s φ:Nat) (υ:aW) (v:Value) (o':aW) (t':Tok):Prop:=
 Act υ (y.tok s) o' t'/\∀cE,cE<φ->aj (lp P Q mn {y with tok:=upd y.tok s t',view:=upd y.view s (some (cE,o'))}) b cs nt (.inRegion ops rest::k) (b7 op env (.z v))
theorem aj.ext (δ:fh y) {s:Nat} {sp:Spec} (ca:y.spec s=some sp) (c0:¬gB (y.tok s)) (h:hI P b ops i op f e args env vs nt)
  (a5:∀(w:World) (φ:Nat) (υ:aW),Seen y s sp φ υ->At s υ w->
   (∃v w' gN,(e vs.toArray).run P w=.ok v w'/\(e vs.toArray).events P w #[⟨.mark (Mark.extern f),false,true⟩]=#[⟨.mark (Mark.extern f),false,true⟩]++gN/\(∀y∈gN,y.sync=true/\∀g,y.loc≠.mark (Mark.extern g))/\
    fV (λag _=>eN s sp ag) (λ_=>False) w w'/\pF s sp y.deaf gN/\
    ((At s υ w'/\JP P Q mn y b cs nt ops rest k op env s φ υ v)\/∃o' t',At s o' w'/\FM P Q mn y b cs nt ops rest k op env s φ υ v o' t'))) :
  aj (lp P Q mn y) b cs nt (.inRegion ops (i::rest)::k) env:=by
 obtain⟨eu,Τ⟩:=h.call;intro t U γ;refine⟨⟨rfl,rfl⟩,Goes.step δ.ok (.inr ⟨⟨rfl,rfl⟩,.inr (.inr (.inr (.inl ⟨s,sp,ca,c0,λw φ υ Ρ hv Β bJ z0 Jl=>?_⟩)))⟩)⟩;obtain⟨v,w',gN,a1,bb,cP,gJ,ix,nh⟩:=a5 w φ υ ⟨Β,z0,Jl⟩ bJ;have cD:=Fj (mn:=mn) (cs:=cs) (rest:=rest) (k:=k) h.nG h.at_ (k5 γ h.want) Τ (h.Bz.bt γ) a1 bb cP;refine .inl ?_;rw[cD];obtain⟨s2,s1⟩:=sh γ h.dst U (a:=.z v) (v:=v) (.z _);refine⟨⟨rfl,rfl⟩,gJ,ix,?_⟩;rcases nh with⟨ax,bf⟩|⟨o',t',ax,bf,hx⟩
 ·exact .inl ⟨ax,(bf _ s1 s2).2⟩
 ·exact .inr ⟨o',t',bf,ax,.inl (Pd h.nG h.at_ Τ),λcE eS=>(hx cE eS _ s1 s2).2⟩
section
variable {s:Nat} {sp:Spec} (δ:fh y) (hd:0<y.deaf) (ca:y.spec s=some sp) (c0:¬gB (y.tok s))
include δ hd ca c0
theorem aj.Jm (h:hI P b ops i op f (Extern.Atomic.loadT (.int .u64)) args env [.pointer (some ⟨s,0,none⟩)] nt)
  (dJ:∀φ υ,Seen y s sp φ υ->JP P Q mn y b cs nt ops rest k op env s φ υ (.int .u64 (c7 υ))):aj (lp P Q mn y) b cs nt (.inRegion ops (i::rest)::k) env:=by
 refine .ext δ ca c0 h λw φ υ ξ bJ=>?_;have ε:=bJ.cN;refine⟨.int .u64 (c7 υ),w,#[⟨.cell ⟨s,0,none⟩,false,true⟩],?_,?_,sC (sB _ false),fV.refl _ _ _,sz (.inl rfl) hd (sB _ false),.inl ⟨bJ,dJ φ υ ξ⟩⟩
 ·change Sem.run P (do Extern.Atomic.read (.int .u64) (<-asAddr (.pointer (some _)))) w=_;simp[Extern.Atomic.read,asAddr,ε]
 ·change Sem.events P (do Extern.Atomic.read (.int .u64) (<-asAddr (.pointer (some _)))) w _=_;simp[Extern.Atomic.read,asAddr,ε,events_load]
theorem aj.Jn {d:Int} (h:hI P b ops i op f (Extern.Atomic.update (Op.intArith .add) .u64 true) args env [.pointer (some ⟨s,0,none⟩),.int .u64 d] nt)
  (dJ:∀φ υ,Seen y s sp φ υ->∃o' t',c7 o'=IntKind.u64.wrap (c7 υ+d)/\o'.cU=υ.cU/\sD υ o'/\FM P Q mn y b cs nt ops rest k op env s φ υ (.int .u64 (c7 o')) o' t') :
  aj (lp P Q mn y) b cs nt (.inRegion ops (i::rest)::k) env:=by
 refine .ext δ ca c0 h λw φ υ ξ bJ=>?_;have ε:=bJ.cN;have Ψ:=bJ.vw 0;obtain⟨o',t',U,γ,ο,Ι⟩:=dJ φ υ ξ;rw[U] at Ι;refine⟨_,_,_,run_add_entry ε Ψ,(events_add_entry ε Ψ _).trans rfl,sC (sA ⟨s,0,none⟩),bJ.y7 _,sz (.inl rfl) hd (sA ⟨s,0,none⟩),.inr ⟨o',t',bJ.y6 ο.a4 ο.g ο.w ?_,Ι⟩⟩;rw[U,γ];rfl
theorem aj.aΧ {d:Int} (h:hI P b ops i op f Extern.Atomic.storeT args env [.pointer (some ⟨s,0,none⟩),.int .u64 d] nt)
  (dJ:∀φ υ,Seen y s sp φ υ->∃o' t',c7 o'=d/\o'.cU=υ.cU/\sD υ o'/\FM P Q mn y b cs nt ops rest k op env s φ υ (.tuple #[]) o' t') :
  aj (lp P Q mn y) b cs nt (.inRegion ops (i::rest)::k) env:=by
 refine .ext δ ca c0 h λw φ υ ξ bJ=>?_;have ε:=bJ.cN;have Ψ:=bJ.vw 0;obtain⟨o',t',U,γ,ο,Ι⟩:=dJ φ υ ξ;refine⟨.tuple #[],w.setCell ⟨s,0,none⟩ (.int .u64 d),#[⟨.cell ⟨s,0,none⟩,true,true⟩],?_,?_,sC (sB _ true),bJ.y7 _,sz (.inl rfl) hd (sB _ true),.inr ⟨o',t',bJ.y6 ο.a4 ο.g ο.w (by rw[U,γ];rfl),Ι⟩⟩
 ·change Sem.run P (do
   store (<-asAddr (.pointer (some _))) (.int .u64 d) .atomic
   pure Extern.Atomic.none_) w=_
  simp[asAddr,ε,Ψ,run_store P w _ (.int .u64 d) .atomic rfl,Result.andThen,Extern.Atomic.none_]
 ·change Sem.events P (do
   store (<-asAddr (.pointer (some _))) (.int .u64 d) .atomic
   pure Extern.Atomic.none_) w _=_
  simp[asAddr,ε,Ψ,events_store P w _ _ (.int .u64 d) .atomic rfl]
end
section
variable {s:Nat} {sp:Spec} (δ:fh y) (ca:y.spec s=some sp) (c0:¬gB (y.tok s))
include δ ca c0
theorem aj.aΨ (ao:vs[0]?=some (.pointer (some ⟨s,1,none⟩))) (h:hI P b ops i op f Extern.Sync.semrelease args env vs nt)
  (dJ:∀φ υ,Seen y s sp φ υ->υ.cU<1000/\∃o' t',c7 o'=c7 υ/\o'.cU=υ.cU+1/\sD υ o'/\FM P Q mn y b cs nt ops rest k op env s φ υ (.tuple #[]) o' t') :
  aj (lp P Q mn y) b cs nt (.inRegion ops (i::rest)::k) env:=by
 refine .ext δ ca c0 h λw φ υ ξ bJ=>?_;have ε:=bJ.aa;obtain⟨aN,o',t',U,γ,ο,Ι⟩:=dJ φ υ ξ;refine⟨_,_,_,Pn ao ε (bJ.vw 1),Po ao ε (bJ.vw 1) _,semEvents_sync _,bJ.y7 _,Fu (.inl rfl),.inr ⟨o',t',bJ.y6 ο.a4 ο.g ο.w ?_,Ι⟩⟩;rw[U,γ,show IntKind.u32.wrap (((υ.cU:Nat):Int)+1)=((υ.cU+1:Nat):Int) by simp only[IntKind.wrap_u32];omega];rfl
end
theorem P1 {t:Array Value} (hb:b.mode=.run) (cv:b.roundOf=none) (e6:b.defers=[Go.Conc.dcall f #[]]) (ht:b.kind=.normal) {fn:Func} (bR:P.funcs[b.fn]?=some fn) (fs:fn.results=#[]) (he:Entry P f (λ_=>do mark .enable;pure Extern.Race.none_)) {c:Frame}
  (h:me P 0 (Go.Conc.G (c.finish (.tuple #[])) cs)):me P 1 (Go.Conc.G {aD b t k with mode:=.returning} (c::cs)):=by
 obtain⟨mη,Ζ,Ε,a8,cR,fy⟩:=he;obtain⟨n,Θ⟩:=h;rw[hj hb cv];refine⟨n+1+1,QuitsD.unwind_mark (a:=⟨t,b.defers⟩) (ds:=[]) .enable rfl η e6 Ζ Ε a8 cR fy ?_⟩;exact .ctl rfl (λw=>stepG_leave (a:=⟨t,[]⟩) ht rfl bR (Go.results_none fs _ P w) (Go.Conc.events_results_none fs _ _)) Θ
theorem aj.JI (hb:b.mode=.run) (cv:b.roundOf=none) (e6:b.defers=[Go.Conc.dcall f #[]]) (ht:b.kind=.normal) {fn:Func} (bR:P.funcs[b.fn]?=some fn) (fs:fn.results=#[]) (he:Entry P f (λ_=>do mark .enable;pure Extern.Race.none_)) {c:Frame}
  (h:me P 0 (Go.Conc.G (c.finish (.tuple #[])) cs)):aj (me P 1) b (c::cs) nt (.code .ret::k) env:=λt _ _=>by
 refine ev _ (Go.Conc.G {aD b t (.code .ret::k) with mode:=.returning} (c::cs)) ⟨rfl,rfl⟩ (λw=>?_) (P1 hb cv e6 ht bR fs he h);rw[jY hb];unfold stepG.exec;simp only[aD,cv];rfl
theorem aj.aΩ (hb:b.mode=.run) (cv:b.roundOf=none) (e6:b.defers=[Go.Conc.dcall f #[]]) (ht:b.kind=.normal) {fn:Func} (bR:P.funcs[b.fn]?=some fn) (fs:fn.results=#[]) (he:Entry P f (λ_=>do mark .enable;pure Extern.Race.none_)) {c:Frame}
  (h:me P 0 (Go.Conc.G (c.finish (.tuple #[])) cs)):aj (me P 1) b (c::cs) nt [] env:=λt _ _=>by
 refine ev _ (Go.Conc.G {aD b t [] with mode:=.returning} (c::cs)) ⟨rfl,rfl⟩ (λw=>?_) (P1 hb cv e6 ht bR fs he h);rw[jY hb];unfold stepG.exec;simp only[aD,cv];rfl
end
def zh (x:a7):a7:={x with aR:=λ_=>none,rel:=true}
theorem V.Hq {P:Program} {Q:Value->Prop} {x:a7} {b:Frame} {cs:List Frame} {nt:Nat} {o:Base} {k:List Item} {env:ab} {ops:Array Oper} {i:Nat} {rest:List Nat} {op:Oper} {f:FuncId} {args:Array Operand} (δ:x.rel=false) {s n:Nat} {sp:Spec} {mu:ml} {v:Option (Nat×aW)} (ca:x.spec s=some sp) (uL:mu=.done\/(mu=.idle/\sp.a4=none)) (c0:∀bs,bs≠s->gB (x.tok bs)) (eH:sp.D n Γ.empty)
  (h:hI P b ops i op f (Extern.Race.marked .releaseMerge) args env [.pointer (some ⟨s,0,none⟩)] nt) (he:∀p∈b7 op env po,∃v,p.2=θ.z v)
  (ψ:aj (lp P Q false (bB (zh x) s (.ch n mu .rel) none 0)) b cs nt (.inRegion ops rest::k) (b7 op env po)):V P Q false (one (bB x s (.ch n mu .work) v 0)) b cs nt o (.inRegion ops (i::rest)::k) env []:=by
 intro S B H t ν ω y Μ;cases Μ;have nJ:=ω.put h.dst (a:=po) (v:=.tuple #[]) (.z _);have Ω:=(ψ _ nJ.size (BM he nJ.cH)).2;refine Goes.step (fh.ok (.inl δ)) (.inr ⟨⟨rfl,rfl⟩,.inr (.inr (.inr (.inr (.inr (.inr (.inl ⟨s,sp,n,mu,Go.Conc.G (aD b (put op t (.tuple #[])) (.inRegion ops rest::k)) cs,Γ.empty,ca,cm (v:=v) (d:=0),uL,λbs jS=>by
  rw[show({bB x s (.ch n mu .work) v 0 with G:=H}:a7).tok bs=(bB x s (.ch n mu .work) v 0).tok bs from rfl,BD jS];exact c0 bs jS,rfl,⟨rfl,rfl⟩,δ,λw _=>
  h.step ω.cH (y3 .releaseMerge _) (y4 .releaseMerge _ _) (sy η),⟨λb o v p ε=>(by cases ε),λb y ε=>(by cases ε),λb y ε=>(by cases ε)⟩,eH,?_⟩))))))⟩)
 have e:({({bB x s (.ch n mu .work) v 0 with G:=H}:a7) with G:=Γ.empty,aR:=λ_=>none,tok:=upd ({bB x s (.ch n mu .work) v 0 with G:=H}:a7).tok s (.ch n mu .rel),view:=upd ({bB x s (.ch n mu .work) v 0 with G:=H}:a7).view s none,rel:=true}:a7)={bB (zh x) s (.ch n mu .rel) none 0 with G:=Γ.empty}:=by
  unfold bB zh;simp only[Jq]
 exact e▸Ω
end Go.TL
