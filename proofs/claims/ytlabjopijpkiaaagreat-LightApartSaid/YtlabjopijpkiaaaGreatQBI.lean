import Derived.Test.YtlabjopijpkiaaaGreatQBH
set_option maxHeartbeats 16000000
set_option maxRecDepth 20000
set_option linter.unusedSectionVars false
set_option linter.unusedSimpArgs false
set_option linter.unusedVariables false
namespace Go.TL
open Go.Conc Go.Proofs
open Go.ConcN (sumTo upd sumTo_upd upd_ne upd_same sumTo_congr le_sumTo)
noncomputable def Nc:Code:=Tryz.f215.body.getD .skip
noncomputable def Ht:Code:=dx [1,1,0,1,0,0] Nc
noncomputable def Nd:List Item:=[.inLoop Ht,.inBlock 0]
theorem W7:∀n<8,0<n→qd .i32 (IntKind.i32.wrap (gE 0 0 0 n-8)) 2=gE 0 1 0 (n-1):=by decide +kernel
theorem W8:∀b<2,∀c<2,∀n<8,fH .i32 (IntKind.i32.wrap (gE 0 b c n+1)) 1=1:=by decide +kernel
abbrev eX:aA:=fun _ _=>none
theorem zJ {S au:aA} {B B':aN} {σ σ':List Row} {env:Χ} {t:Array Value} (he:∀p∈env,∃v,p.2=θ.z v) (h:c7 S B σ env t):c7 au B' σ' env t:=by
 intro i;have key:∀(env:Χ),(∀p∈env,∃v,p.2=θ.z v)→(∃v,a5 env i=.z v)∨a5 env i=.cp:=by
  intro env
  induction env with
  | nil=>exact fun _=>.inr rfl
  | cons p l Γ=>
   intro h;obtain⟨j,a⟩:=p;simp only[a5];split
   ·exact .inl (h (j,a) (by simp))
   ·exact Γ fun q Υ=>h q (by simp[Υ])
 have hi:=h i;rcases key env he with⟨v,e⟩|e
 ·rw[e] at hi ⊢;generalize t.getD i undef=u at hi;cases hi;exact .z _
 ·rw[e];exact .cp _
theorem xa (H:ψ):Holds eX [] [] H:=⟨fun b o v h=>(by cases h),rfl,fun id r bo h=>(by simp at h),fun i j dX b4 b gk gl _ h=>(by simp at h),fun id r b N h=>(by simp at h)⟩
theorem fj.none {m nt:Nat} {S:aA} {B:aN} {H H':ψ} {env:Χ} {t:Array Value} (h:fj m nt S B H [] env t) (he:∀p∈env,∃v,p.2=θ.z v):fj 0 nt eX [] H' [] env t:=⟨xa H',zJ he h.cj,h.size,Nat.le_refl _⟩
section
variable {Q:Value→Prop} {mn:Bool} {x:aR} {c:Frame} {rest:List Frame} {S:aA} {B:aN} {σ:List Row} {H:ψ} {s m k:Nat} {sp:Spec} {v:Option (Nat×aK)} {t:Tok}
abbrev Hu (Q:Value→Prop) (mn:Bool) (x:aR) (c:Frame) (rest:List Frame) (H:ψ) (s m:Nat) (w:Int) (t:Tok) (v:Option (Nat×aK)) (K:List Item) (env:Χ):Prop:=
 V Tryz.prog Q mn (one (br x s t v 1)) (Frame.enter Tryz.prog 215 #[ptr m 0,.int .i32 w] .normal) (c::rest) 43 ⟨eX,[],H,[],0⟩ K env []
def zK (Q:Value→Prop) (mn:Bool) (x:aR) (c:Frame) (rest:List Frame) (H:ψ) (s k d:Nat):Prop:=
 ∀(v:Option (Nat×aK)) (cO:aA) (bJ:ψ),Ext eX [] H cO [] bJ→cf Tryz.prog Q mn (br x s (.ch k .done .work) v d) (c.finish (.tuple #[])) rest bJ
theorem Hv (η:iK x s m sp) (Ζ:zK Q mn x c rest H s k 1) {w:Int} {K:List Item} {env:Χ} (e:t=.ch k .done .work):Hu Q mn x c rest H s m w t v (.code .ret::K) env:=by
 letI:bd:=eF;have δ:=η.seq;subst e;refine V.Hh (δ _ _ _) rfl rfl rfl rfl Tryz.func215 rfl fun bE bK H1 μ Α=>?_;obtain rfl:bK=[]:=dq.1 Α.len;rintro y rfl;exact Ζ v bE H1 μ.ext
def Nf (k:Nat) (π:aK) (t:Tok):Prop:=((π.nw=0∨π.b6=1∨π.wk=1∨π.sv=1)∧t=.ch k .done .work)∨(0<π.nw∧π.b6=0∧π.wk=0∧π.sv=0∧t=.ch k .uc .work)
theorem Ng (η:iK x s m sp) (Ζ:zK Q mn x c rest H s k 1) {w:Int}:∀(N φ:Nat) (π:aK) (t:Tok),φ<N→π.b6≤1→π.wk≤1→π.sv≤1→π.nw<7→Nf k π t→
  Hu Q mn x c rest H s m w t (some (φ,π)) (.code Ht::Nd) [(0,.z (ptr m 0)),(4,.z (.int .i32 (mwd π)))]:=by
 letI:bd:=eF;have δ:=η.seq;intro N
 induction N with
 | zero=>intro φ π t h;omega
 | succ N zH=>
  intro φ π t cm ω hw pv Η Μ;have pU:=WC π.b6 (by omega) π.wk (by omega) π.sv (by omega) π.nw (by omega);have lb:=Ho π.b6 (by omega) π.wk (by omega) π.sv (by omega) π.nw (by omega);rw[←oC] at pU lb;have back:∀(cb:Nat) (ho:aK) (t':Tok),cb<N→ho.b6≤1→ho.wk≤1→ho.sv≤1→ho.nw<7→Nf k ho t'→Hu Q mn x c rest H s m w t' (some (cb,ho)) Nd [(0,.z (ptr m 0)),(4,.z (.int .i32 (mwd ho)))]:=fun cb ho t' R γ ο Ι ay a6=>by
   have:=zH cb ho t' R γ ο Ι ay a6;refine V.a' (δ _ _ _) rfl ?_;exact W.inLoop (.stop this)
  refine V.a' (δ _ _ _) rfl ?_;unfold Ht Nc
  repeat first|apply aV|apply wb|apply aX|apply wd
  rcases Μ with⟨Μ,rfl⟩|⟨R,γ,ο,Ι,rfl⟩
  ·by_cases Ν:π.nw=0
   ·rw[Ν] at lb;(repeat (first|apply aV|apply wb|apply aX|apply wd|refine al rfl ?_|refine ah rfl ?_|(refine ν fun J I=>?_;simp;(repeat (rw[ζ];simp[lb]));apply I;clear I J)));exact .stop (Hv η Ζ rfl)
   ·have gv:¬fH .i32 (mwd π) 7=0:=by rw[pU];omega
    have EF:(fH .i32 (mwd π) 7 != 0)=true:=by simpa using gv
    (repeat (first|apply aV|apply wb|apply aX|apply wd|refine al rfl ?_|refine ah rfl ?_|(refine ν fun J I=>?_;simp;(repeat (rw[ζ];simp[lb,Ν,gv,EF]));apply I;clear I J)));exact .stop (Hv η Ζ rfl)
  ·have Ν:¬π.nw=0:=by omega
   have kN:¬(π.nw:Int)=0:=by omega
   have Dj:mwd π=gE 0 0 0 π.nw:=by rw[oC,γ,ο,Ι]
   have xT:=W7 π.nw (by omega) R;rw[←Dj] at xT;rw[γ,ο,Ι] at pU;(repeat (first|apply aV|apply wb|apply aX|apply wd|refine al rfl ?_|refine ah rfl ?_|(refine ν fun J I=>?_;simp;(repeat (rw[ζ];simp[lb,Ν,kN,pU]));apply I;clear I J)));refine W.ca ?_;refine W.part (A:=[]) Θ [0,1,2,3,4] [5] rfl fun J I=>?_;(try simp);(repeat (rw[ζ];simp[xT]));(try simp[xT]);apply I;clear I J;refine W.stop ?_;refine V.C9 (δ _ _ _).here (Nat.succ_pos _) (sp:=sp) η.spec (by rw[bZ];exact id) η.aQ ⟨⟨rfl,rfl,by simp[Frame.enter],rfl⟩,Df,⟨_,rfl⟩,rfl,rfl,rfl⟩ (fun gF fA ξ hv=>.inl ?_) (fun gF fA ξ hv=>?_)
   ·have pa:=ξ.view φ π oB
    have ay:gF<φ:=by
     rcases Nat.lt_or_ge gF φ with h|h
     ·exact h
     ·exact absurd (by rw[pa.2 (by omega)]) hv
    unfold hG;rw[jF];refine V.a' (δ _ _ _) rfl ?_;refine W.bB ?_;refine ah rfl ?_
    repeat first|apply aV|apply wb|apply aX|apply wd
    refine W.ca ?_;refine W.part (A:=[]) Θ [0,1,2] [3,4] rfl fun J I=>?_;(try simp);(repeat (rw[ζ];simp));apply I;clear I J;refine W.stop ?_;refine V.w6 (δ _ _ _).here (sp:=sp) η.spec (by rw[bZ];exact id) ⟨rfl,rfl,by simp[Frame.enter],rfl⟩ rfl rfl rfl w7 rfl (by kernel_rfl) mwd (fun π w Β bx=>bx.du (by rw[Β];exact η.aQ)) (fun hn fr dI=>?_);have wJ:=dI.view gF fA oB;have eU:=dI.iJ.mm;have gg:=zF η dI.spec;have Ξ:=eU.b6;have ad:=eU.wk;have aT:=eU.sv;have ck:=eU.nw;by_cases sx:fr.nw=0∨fr.b6=1∨fr.wk=1∨fr.sv=1
    ·refine .inr ⟨.ch k .done .work,by rw[bZ];exact .P9 sx,fun w8 ec=>?_⟩;rw[gD];refine V.a' (δ _ _ _) rfl ?_;refine W.part (A:=[]) Θ [4] [] rfl fun J I=>?_;(try simp);(repeat (rw[ζ];simp));(try simp[]);apply I;clear I J;refine W.bB ?_
     repeat (first|apply aV|apply wb|apply aX|apply wd)
     refine W.forget [(0,.z (ptr m 0)),(4,.z (.int .i32 (mwd fr)))] (by simp) (.stop ?_);exact back w8 fr _ (by omega) Ξ ad aT (by omega) (.inl ⟨sx,rfl⟩)
    ·refine .inl ?_;unfold hG;rw[jF];refine V.a' (δ _ _ _) rfl ?_;refine W.part (A:=[]) Θ [4] [] rfl fun J I=>?_;(try simp);(repeat (rw[ζ];simp));(try simp[]);apply I;clear I J;refine W.bB ?_
     repeat (first|apply aV|apply wb|apply aX|apply wd)
     refine W.forget [(0,.z (ptr m 0)),(4,.z (.int .i32 (mwd fr)))] (by simp) (.stop ?_);exact back hn fr _ (by omega) Ξ ad aT (by omega) (.inr ⟨by omega,by omega,by omega,by omega,rfl⟩)
   ·have iw:=ξ.iJ.mm
    have gg:=zF η ξ.spec
    have f1:=iw.b6;have f2:=iw.wk;have f3:=iw.sv;have f4:=iw.nw
    have f5:fA.b6=0∧fA.wk=0∧fA.sv=0∧fA.nw=π.nw:=by
     rw[Dj] at hv;simp only[mwd,gE] at hv;omega
    refine⟨{fA with nw:=fA.nw-1,wk:=1},.ch k .us .work,?_,rfl,⟨rfl,rfl,rfl⟩,by rw[bZ];exact .P8 (by omega) (by omega) (by omega) (by omega),fun hn ec=>?_⟩
    ·simp[oC,f5]
    ·rw[gD];refine V.a' (δ _ _ _) rfl ?_;refine W.bB ?_;refine al rfl ?_
     repeat first|apply aV|apply wb|apply aX|apply wd
     refine W.ca ?_;refine W.part (A:=[]) Θ [0,1,2] [3] rfl fun J I=>?_;(try simp);(repeat (rw[ζ];simp));apply I;clear I J;refine W.stop ?_;refine V.MQ (δ _ _ _).here (sp:=sp) η.spec (by rw[bZ];exact id) η.aQ (vs:=[ptr m 1,.bool false,.int .i64 2]) rfl ⟨⟨rfl,rfl,by simp[Frame.enter],rfl⟩,M1,⟨_,rfl⟩,rfl,rfl,rfl⟩ (fun w8 df qI=>?_);have jM:=qI.iJ.mm;refine⟨by have:=jM.cR;omega,{df with cR:=df.cR+1},.ch k .done .work,rfl,rfl,⟨rfl,rfl,rfl⟩,by rw[bZ];exact .post,fun zL gι=>?_⟩;rw[gD];refine V.a' (δ _ _ _) rfl ?_;refine W.bB (.stop ?_);exact Hv η Ζ rfl
theorem W9 (η:iK x s m sp) (Ζ:zK Q mn x c rest H s k 1) {π:aK} {φ:Nat} (Β:π.toSpec=sp) (Dk:π.b6=0) (zu:π.wk≤1) (mN:π.sv≤1) (Nh:π.nw<7)
  (Μ:(π.sv=0∧(π.nw=0∨π.wk=1)∧t=.ch k .done .work)∨(π.sv=0∧0<π.nw∧π.wk=0∧t=.ch k .uc .work)∨(π.sv=1∧t=.ch k .us .work)) :
  cf Tryz.prog Q mn (br x s t (some (φ,π)) 1) (Frame.enter Tryz.prog 215 #[ptr m 0,.int .i32 (mwd π)] .normal) (c::rest) H:=by
 letI:bd:=eF;have δ:=η.seq;have dB:=W8 π.wk (by omega) π.sv (by omega) π.nw (by omega);have cu:=Hm 0 (by omega) π.wk (by omega) π.sv (by omega) π.nw (by omega);have Dj:mwd π=gE 0 π.wk π.sv π.nw:=by rw[oC,Dk]
 rw[←Dj] at dB cu;refine V.pz (z:=one _) (vs:=[ptr m 0,.int .i32 (mwd π)]) (S:=eX) Tryz.func215 rfl (xa H) (by simp[Tryz.ntmps215]) ?_ _ rfl;refine V.a' (δ _ _ _) rfl ?_;rcases Μ with⟨R,γ,rfl⟩|⟨R,γ,ο,rfl⟩|⟨R,rfl⟩
 ·rw[R] at cu;(repeat (first|apply aV|apply wb|apply aX|apply wd|refine al rfl ?_|refine ah rfl ?_|(refine ν fun J I=>?_;simp;(repeat (rw[ζ];simp[dB,cu]));apply I;clear I J)));refine W.loop ?_;refine W.forget [(0,.z (ptr m 0)),(4,.z (.int .i32 (mwd π)))] (by simp) (.stop ?_);exact Ng η Ζ (φ+1) φ π _ (Nat.lt_succ_self _) (by omega) zu mN Nh (.inl ⟨γ.imp id fun h=>.inr (.inl h),rfl⟩)
 ·rw[R] at cu;(repeat (first|apply aV|apply wb|apply aX|apply wd|refine al rfl ?_|refine ah rfl ?_|(refine ν fun J I=>?_;simp;(repeat (rw[ζ];simp[dB,cu]));apply I;clear I J)));refine W.loop ?_;refine W.forget [(0,.z (ptr m 0)),(4,.z (.int .i32 (mwd π)))] (by simp) (.stop ?_);exact Ng η Ζ (φ+1) φ π _ (Nat.lt_succ_self _) (by omega) zu mN Nh (.inr ⟨γ,Dk,ο,R,rfl⟩)
 ·rw[R] at cu;(repeat (first|apply aV|apply wb|apply aX|apply wd|refine al rfl ?_|refine ah rfl ?_|(refine ν fun J I=>?_;simp;(repeat (rw[ζ];simp[dB,cu]));apply I;clear I J)));refine W.ca ?_;refine W.part (A:=[]) Θ [0,1,2] [3] rfl fun J I=>?_;(try simp);(repeat (rw[ζ];simp));apply I;clear I J;refine W.stop ?_;refine V.MQ (δ _ _ _).here (sp:=sp) η.spec (by rw[bZ];exact id) η.aQ (vs:=[ptr m 1,.bool true,.int .i64 2]) rfl ⟨⟨rfl,rfl,by simp[Frame.enter],rfl⟩,M1,⟨_,rfl⟩,rfl,rfl,rfl⟩ (fun gF fA ξ=>?_);have iw:=ξ.iJ.mm;refine⟨by have:=iw.cR;omega,{fA with cR:=fA.cR+1},.ch k .done .work,rfl,rfl,⟨rfl,rfl,rfl⟩,by rw[bZ];exact .post,fun hn ec=>?_⟩;rw[gD];refine V.a' (δ _ _ _) rfl ?_;refine W.bB (.stop ?_);refine V.Da (δ _ _ _) rfl rfl rfl rfl Tryz.func215 rfl fun bE bK H1 μ Α=>?_;obtain rfl:bK=[]:=dq.1 Α.len;rintro y rfl;exact Ζ _ bE H1 μ.ext
end
noncomputable def zM:Code:=Tryz.f176.body.getD .skip
theorem W':(Tryz.prog.funcs[176]?).any (·.norace)=true:=by kernel_rfl
section
variable {Q:Value→Prop} {mn:Bool} {x:aR} {c:Frame} {rest:List Frame} {S:aA} {B:aN} {σ:List Row} {H:ψ} {s m k:Nat} {sp:Spec} {v:Option (Nat×aK)} {t:Tok}
abbrev Ni (Q:Value→Prop) (mn:Bool) (x:aR) (c:Frame) (rest:List Frame) (H:ψ) (s m:Nat) (t:Tok) (v:Option (Nat×aK)) (d:Nat) (K:List Item) (env:Χ):Prop:=
 V Tryz.prog Q mn (one (br x s t v d)) (Frame.enter Tryz.prog 176 #[ptr m 0] .normal) (c::rest) 21 ⟨eX,[],H,[],0⟩ K env []
theorem Nj {au:aA} {H H':ψ} (h:Ext eX [] H au [] H'):Ext eX [] H eX [] H':=
 ⟨fun b o v h=>(by cases h),fun b hb Ρ=>h.ft b hb Ρ,fun b hb=>h.blocks b hb,fun b o v h=>(by cases h),h.grow⟩
theorem Nk (η:iK x s m sp) (Ζ:zK Q mn x c rest H s k 0) {env:Χ}:Ni Q mn x c rest H s m (.ch k .done .work) v 1 [.code (dx [1,1,1] zM)] env:=by
 letI:bd:=eF;have δ:=η.seq;refine V.a' (δ _ _ _) rfl ?_;unfold zM;refine W.ca (.stop ?_);refine V.enable (δ _ _ _).here (Nat.succ_pos _) ⟨⟨rfl,rfl,by simp[Frame.enter],rfl⟩,th,⟨_,rfl⟩,rfl,rfl,rfl⟩ ?_;rw[zz];refine V.a' (δ _ _ _) rfl ?_;refine W.bB (.stop ?_);refine V.Da (δ _ _ _) rfl rfl rfl rfl Tryz.func176 rfl fun bE bK H1 μ Α=>?_;obtain rfl:bK=[]:=dq.1 Α.len;rintro y rfl;exact Ζ _ bE H1 μ.ext
theorem Xa (η:iK x s m sp) (Α:Holds S B σ H) {L:List Nat}
  (cY:∀(au:aA) (H':ψ),Ext S [] H au [] H'→Holds au [] [] H'→∃H1 E,Split H' H1 E∧sp.aG (L++[k]) E∧zK Q mn x c rest H1 s k 0) :
  cf Tryz.prog Q mn (br x s (.ch k (.c5 L) .work) v 0) (Frame.enter Tryz.prog 176 #[ptr m 0] .normal) (c::rest) H:=by
 letI:bd:=eF;have δ:=η.seq;refine V.pz (z:=one _) (vs:=[ptr m 0]) Tryz.func176 rfl Α (by simp[Tryz.ntmps176]) ?_ _ rfl;refine V.a' (δ _ _ _) rfl ?_
 repeat first|apply aV|apply wb|apply aX|apply wd
 refine al rfl ?_
 repeat first|apply aV|apply wb|apply aX|apply wd
 refine W.ca ?_;refine W.part (A:=[]) Θ [0,1,2] [3] rfl fun J I=>?_;(try simp);(repeat (rw[ζ];simp));apply I;clear I J;refine W.stop ?_;refine V.w6 (δ _ _ _).here (sp:=sp) η.spec (by rw[bZ];exact id) ⟨rfl,rfl,by simp[Frame.enter],rfl⟩ rfl rfl rfl w7 rfl W' mwd (fun π w Β bx=>bx.du (by rw[Β];exact η.aQ)) (fun gF fA qJ=>.inl ?_);unfold hG;rw[jF];refine V.a' (δ _ _ _) rfl ?_;refine W.bB ?_
 repeat first|apply aV|apply wb|apply aX|apply wd
 refine W.forget [(0,.z (ptr m 0))] (by simp) ?_;refine W.ca ?_;refine W.part (A:=[]) Θ [0] [1,2] rfl fun J I=>?_;(try simp);(repeat (rw[ζ];simp));apply I;clear I J;refine W.stop ?_;refine V.conv (δ _ _ _).here (sp:=sp) η.spec (by rw[bZ];exact id) ⟨rfl,rfl,by simp[Frame.enter],rfl⟩ rfl rfl rfl Hp ti Hq rfl (fun π w Β bx=>⟨_,bx.du (by rw[Β];exact η.aQ)⟩) (fun φ π ξ=>?_);unfold hG;rw[jF];refine V.E3 η.rel rfl (sp:=sp) (L:=L) η.spec η.aQ bZ ⟨⟨rfl,rfl,by simp[Frame.enter],rfl⟩,MV,⟨_,rfl⟩,rfl,rfl,rfl⟩ fun bE bK H1 t1 μ χ=>?_;obtain rfl:bK=[]:=dq.1 χ.holds.len;obtain⟨bJ,E,Ξ,ad,aT⟩:=cY bE H1 μ.ext χ.holds;refine⟨bJ,E,Ξ,ad,?_⟩;rw[gD];refine V.here (x:=one _) (S:=eX) (B:=[]) (σ:=[]) (m:=0) (nt:=21) ?_ (χ.none (by simp)) _ rfl;refine V.a' (δ _ _ _) rfl ?_;refine W.bB ?_
 repeat first|apply aV|apply wb|apply aX|apply wd
 refine W.ca (.stop ?_);refine V.disable (δ _ _ _).here ⟨⟨rfl,rfl,by simp[Frame.enter],rfl⟩,zC,⟨_,rfl⟩,rfl,rfl,rfl⟩ ?_;rw[zy];refine V.a' (δ _ _ _) rfl ?_;refine W.bB ?_
 repeat first|apply aV|apply wb|apply aX|apply wd
 refine W.ca ?_;refine W.part (A:=[]) Θ [0,1,2] [3,4] rfl fun J I=>?_;(try simp);(repeat (rw[ζ];simp));apply I;clear I J;refine W.stop ?_;refine V.MK (δ _ _ _).here (Nat.succ_pos _) (sp:=sp) η.spec (by rw[bZ];exact id) η.aQ ⟨⟨rfl,rfl,by simp[Frame.enter],rfl⟩,MX,⟨_,rfl⟩,rfl,rfl,rfl⟩ (fun w8 df qI=>?_);have jM:=qI.iJ.mm;rw[bZ] at jM;have Dk:=jM.hold rfl;have gg:=zF η qI.spec;have f1:=jM.wk;have f2:=jM.sv;have f3:=jM.nw;have Nl:mwd {df with b6:=0}=IntKind.i32.wrap (mwd df+-1):=by simp only[mwd,IntKind.wrap_i32,Dk];omega
 have go:∀(t:Tok) (cb:Nat),(df.sv=0∧(df.nw=0∨df.wk=1)∧t=.ch k .done .work)∨(df.sv=0∧0<df.nw∧df.wk=0∧t=.ch k .uc .work)∨(df.sv=1∧t=.ch k .us .work)→
   Ni Q mn x c rest bJ s m t (some (cb,{df with b6:=0})) 1 [.code (dx [1,1,0] zM),.code (dx [1,1,1] zM)] [(0,.z (ptr m 0)),(2,.z (.int .i32 (mwd {df with b6:=0})))]:=fun t cb Μ=>by
  refine V.a' (δ _ _ _) rfl ?_;unfold zM
  repeat first|apply aV|apply wb|apply aX|apply wd
  by_cases Ν:mwd {df with b6:=0}=0
  ·(repeat (first|apply aV|apply wb|apply aX|apply wd|refine al rfl ?_|refine ah rfl ?_|(refine ν fun J I=>?_;simp;(repeat (rw[ζ];simp[Ν]));apply I;clear I J)));have Xb:t=.ch k .done .work:=by
    simp only[mwd] at Ν;rcases Μ with⟨_,_,h⟩|⟨_,h,_⟩|⟨h,_⟩
    ·exact h
    ·omega
    ·omega
   subst Xb;exact .stop (Nk η aT)
  ·have kN:(mwd {df with b6:=0} != 0)=true:=by simpa using Ν
   (repeat (first|apply aV|apply wb|apply aX|apply wd|refine al rfl ?_|refine ah rfl ?_|(refine ν fun J I=>?_;simp;(repeat (rw[ζ];simp[Ν,kN]));apply I;clear I J)));refine W.ca ?_;refine W.part (A:=[]) Θ [0,1] [2] rfl fun J I=>?_;(try simp);(repeat (rw[ζ];simp));apply I;clear I J;refine W.stop ?_;refine V.call (δ _ _ _) ⟨rfl,rfl,by simp[Frame.enter],rfl⟩ rfl rfl rfl ⟨_,Tryz.func215,rfl,rfl⟩ fun jf ot jg t4 Xc rN pn Hw=>?_;obtain rfl:=l4 (l:=[ptr m 0,.int .i32 (mwd {df with b6:=0})]) Hw;obtain rfl:ot=[]:=dq.1 pn.holds.len;rintro y rfl;refine W9 η (fun gκ hU hk zN=>?_) (by exact qI.spec) rfl f1 f2 (by show df.nw<7;omega) Μ;rw[hO rfl];have Dl:Ext eX [] bJ eX [] hk:=(Nj rN.ext).trans (Nj zN);refine V.here (x:=one _) (S:=eX) (B:=[]) (σ:=[]) (m:=0) (nt:=21) ?_ ((pn.put (a:=nB) rfl (.z _)).none (by simp)) _ rfl;refine V.a' (δ _ _ _) rfl ?_;refine W.bB (.stop ?_);exact Nk η fun v6 Hx Hy a6=>aT v6 Hx Hy (Dl.trans a6)
 by_cases mN:df.sv=1
 ·refine⟨{df with b6:=0},.ch k .us .work,Nl,rfl,⟨rfl,rfl,rfl⟩,by rw[bZ];exact .P7 mN,fun zL _=>?_⟩;rw[gD];refine V.a' (δ _ _ _) rfl ?_;refine W.part (A:=[]) Θ [4] [] rfl fun J I=>?_;(try simp);(repeat (rw[ζ];simp));(try simp[]);apply I;clear I J;refine W.bB ?_
  first|apply aV|apply wb|apply aX|apply wd
  refine W.forget [(0,.z (ptr m 0)),(2,.z (.int .i32 (mwd {df with b6:=0})))] (by simp) (.stop ?_);exact go _ zL (.inr (.inr ⟨mN,rfl⟩))
 ·have jO:df.sv=0:=by omega
  have step:∀(t:Tok),(df.sv=0∧(df.nw=0∨df.wk=1)∧t=.ch k .done .work)∨(df.sv=0∧0<df.nw∧df.wk=0∧t=.ch k .uc .work)→Act df (.ch k .fin .work) {df with b6:=0} t→∃o' t',mwd o'=IntKind.i32.wrap (mwd df+-1)∧o'.cR=df.cR∧w5 df o'∧Act df (.ch k .fin .work) o' t'∧((df.sv=0∧(df.nw=0∨df.wk=1)∧t'=.ch k .done .work)∨(df.sv=0∧0<df.nw∧df.wk=0∧t'=.ch k .uc .work))∧o'={df with b6:=0}:=fun t R γ=>⟨_,t,Nl,rfl,⟨rfl,rfl,rfl⟩,γ,R,rfl⟩;obtain⟨o',t',ew,en,ia,rq,sP,rfl⟩:∃o' t',mwd o'=IntKind.i32.wrap (mwd df+-1)∧o'.cR=df.cR∧w5 df o'∧Act df (.ch k .fin .work) o' t'∧((df.sv=0∧(df.nw=0∨df.wk=1)∧t'=.ch k .done .work)∨(df.sv=0∧0<df.nw∧df.wk=0∧t'=.ch k .uc .work))∧o'={df with b6:=0}:=by
   by_cases Η:df.nw=0∨df.wk=1
   ·exact step _ (.inl ⟨jO,Η,rfl⟩) (.P5 jO Η)
   ·exact step _ (.inr ⟨jO,by omega,by omega,rfl⟩) (.P6 jO (by omega) (by omega))
  refine⟨_,t',ew,en,ia,by rw[bZ];exact rq,fun zL _=>?_⟩;rw[gD];refine V.a' (δ _ _ _) rfl ?_;refine W.part (A:=[]) Θ [4] [] rfl fun J I=>?_;(try simp);(repeat (rw[ζ];simp));(try simp[]);apply I;clear I J;refine W.bB ?_
  first|apply aV|apply wb|apply aX|apply wd
  refine W.forget [(0,.z (ptr m 0)),(2,.z (.int .i32 (mwd {df with b6:=0})))] (by simp) (.stop ?_);exact go _ zL (sP.imp id fun h=>.inl h)
theorem cf.leaveD [bd] {P:Program} {Q:Value→Prop} {mn:Bool} {x:aR} {c b:Frame} {rest:List Frame} {H:ψ} {t:Array Value} {ops:Array Oper} {fn:Func} (δ:Seq (one x)) (hb:b.mode=.run) (b7:b.roundOf=none) (et:b.defers=[]) (gu:b.kind=.deferred) (b':P.funcs[b.fn]?=some fn) (eL:fn.results=#[])
  (pG:c.mode=.returning) (h:cf P Q mn x c rest H):cf P Q mn x (ao b t [.inRegion ops []]) (c::rest) H:=by
 refine aJ.bB (x:=one x) δ hb (.rb δ hb b7 (.Fs δ rfl et gu b' ?_)) x rfl;rw[results_none eL];refine ς.pure' ?_;simp only[pG];intro y Ο;cases Ο;exact h
theorem Xd (η:iK x s m sp) (Α:Holds S B σ H) (pG:c.mode=.returning) {L:List Nat}
  (cY:∀(au:aA) (H':ψ),Ext S [] H au [] H'→Holds au [] [] H'→∃H1 E,Split H' H1 E∧sp.aG (L++[k]) E∧∀(v:Option (Nat×aK)) (cO:aA) (bJ:ψ),Ext eX [] H1 cO [] bJ→cf Tryz.prog Q mn (br x s (.ch k .done .work) v 0) c rest bJ) :
  cf Tryz.prog Q mn (br x s (.ch k (.c5 L) .work) v 0) (Frame.enter Tryz.prog 145 #[ptr m 0] .deferred) (c::rest) H:=by
 letI:bd:=eF;have δ:=η.seq;rw[pj (body:=Tryz.f145.body.getD .skip) Tryz.func145 rfl];refine V.here (x:=one _) (m:=0) (nt:=6) (env:=entry 0 [.z (ptr m 0)]) ?_ (fj.enter Α.bare ⟨rfl,fun i a v R γ=>?_⟩ (Nat.le_refl _) (by simp)) _ rfl
 ·refine V.a' (δ _ _ _) rfl ?_;simp only[Tryz.f145,Option.getD_some]
  repeat first|apply aV|apply wb|apply aX|apply wd
  refine W.ca ?_;refine W.part (A:=[]) Θ [0,1,2] [3] rfl fun J I=>?_;(try simp);(repeat (rw[ζ];simp));apply I;clear I J;refine W.stop ?_;refine V.call (δ _ _ _) ⟨rfl,rfl,by simp[Frame.enter],rfl⟩ rfl rfl rfl ⟨_,Tryz.func176,rfl,rfl⟩ fun bE bK H1 t1 oq μ χ hv=>?_;obtain rfl:=l4 (l:=[ptr m 0]) hv;obtain rfl:bK=[]:=dq.1 χ.holds.len;rintro y rfl;refine Xa η χ.holds (L:=L) fun cO bJ ku iA=>?_;obtain⟨iF,E,Ξ,ad,aT⟩:=cY cO bJ (μ.ext.trans ku) iA;refine⟨iF,E,Ξ,ad,fun v4 jf jg nD=>?_⟩;rw[hO rfl];refine cf.leaveD (δ _ _ _) rfl rfl rfl rfl Tryz.func145 rfl pG ?_;exact aT v4 jf jg nD
 ·cases i with
  | zero=>simp at R γ;subst R;subst γ;exact .z _
  | succ i=>simp at R
end
structure lf (x:aR) (s:Nat) (sp:Spec):Prop where
 rel:x.rel=false
 aC:x.aC=fun _=>none
 spec:x.spec s=some sp
 top:sp.top<7
 still:∀bj,bj≠s→ml (x.tok bj)
theorem lf.seq {x:aR} {s:Nat} {sp:Spec} (h:lf x s sp):∀t v d,@Seq eF (one (br x s t v d)):=fun t v d=>@Seq.tf eF _ trivial h.rel h.aC
abbrev hA (c w:Nat):Int:=(c:Int)*4294967296+w
theorem Dm:∀c<8,∀w<2,fH .u64 (hA c w) 2147483648=0:=by decide +kernel
theorem Dn:∀c<8,∀w<2,IntKind.i32.wrap ((hA c w).fdiv (2 ^ min 32 IntKind.u64.bits))=c:=by decide +kernel
theorem Dp:∀c<8,∀w<2,IntKind.u32.wrap (fH .u64 (hA c w) 2147483647)=w:=by decide +kernel
theorem Xe:∀c<7,∀w<2,IntKind.u64.wrap (hA c w+4294967296)=hA (c+1) w:=by decide +kernel
theorem Xf:∀c<8,∀w<2,0<c→IntKind.u64.wrap (hA c w+18446744069414584320)=hA (c-1) w:=by decide +kernel
theorem Xg:∀c<8,IntKind.u64.wrap (hA c 0+1)=hA c 1:=by decide +kernel
theorem Nm:IntKind.u64.wrap 1=1:=by decide
theorem Nn:IntKind.u64.wrap (2 ^ min 32 IntKind.u64.bits)=4294967296:=by decide
theorem Hz:IntKind.i32.wrap 1=1:=by decide
theorem tl (π:aK):cF π=hA π.cnt π.wt:=rfl
section
variable {Q:Value→Prop} {mn:Bool} {x:aR} {c:Frame} {rest:List Frame} {S:aA} {B:aN} {σ:List Row} {H:ψ} {s k:Nat} {sp:Spec} {v:Option (Nat×aK)} {t:Tok}
theorem Dq (η:lf x s sp) {π:aK} (h:π.toSpec=sp):π.top<7:=by have:=η.top;rw[show π.top=sp.top by rw[←h]];exact this
def xb (Q:Value→Prop) (mn:Bool) (x:aR) (c:Frame) (rest:List Frame) (S:aA) (H:ψ) (r:Value):Prop:=
 ∀(au:aA) (H':ψ),Ext S [] H au [] H'→Holds au [] [] H'→cf Tryz.prog Q mn x (c.finish r) rest H'
theorem Xh (η:lf x s sp) (cM:¬fC t) {d:Int} (Α:Holds S B σ H)
  (dd:∀φ π,Seen (br x s t v 1) s sp φ π→∃o' t',cF o'=IntKind.u64.wrap (cF π+d)∧o'.cz=π.cz∧qG π o'∧Act π t o' t'∧∀cb,cb<φ→xb Q mn (br x s t' (some (cb,o')) 1) c rest S H (.int .u64 (cF o'))) :
  cf Tryz.prog Q mn (br x s t v 1) (Frame.enter Tryz.prog 166 #[ptr s 0,.int .u64 d] .normal) (c::rest) H:=by
 letI:bd:=eF;have δ:=η.seq;refine V.pz (z:=one _) (vs:=[ptr s 0,.int .u64 d]) Tryz.func166 rfl Α (by simp[Tryz.ntmps166]) ?_ _ rfl;refine V.a' (δ _ _ _) rfl ?_;(repeat (first|apply aV|apply wb|apply aX|apply wd|refine al rfl ?_|refine ah rfl ?_|(refine ν fun J I=>?_;simp;(repeat (rw[ζ];simp));apply I;clear I J)));refine W.ca ?_;refine W.part (A:=[]) Θ [0,1,2,3] [4,5] rfl fun J I=>?_;(try simp);(repeat (rw[ζ];simp));apply I;clear I J;refine W.stop ?_;refine V.Hg (δ _ _ _).here (Nat.succ_pos _) (sp:=sp) η.spec (by rw[bZ];exact cM) ⟨⟨rfl,rfl,by simp[Frame.enter],rfl⟩,MY,⟨_,rfl⟩,rfl,rfl,rfl⟩ (fun φ π ξ=>?_);obtain⟨o',t',R,γ,ο,Ι,ay⟩:=dd φ π ξ;refine⟨o',t',R,γ,ο,by rw[bZ];exact Ι,fun cb ec=>?_⟩;rw[gD];refine V.a' (δ _ _ _) rfl ?_;refine W.part (A:=[]) Θ [5] [] rfl fun J I=>?_;(try simp);(repeat (rw[ζ];simp));(try simp[]);apply I;clear I J;refine W.bB (.stop ?_);refine V.rX (δ _ _ _) rfl rfl rfl rfl Tryz.func166 rfl rfl fun bE bK H1 μ iZ=>?_;obtain rfl:bK=[]:=dq.1 iZ.len;rintro y rfl;exact ay cb ec bE H1 μ.ext iZ
theorem HA (η:lf x s sp) (cM:¬fC t) (Α:Holds S B σ H)
  (dd:∀φ π,Seen (br x s t v 1) s sp φ π→xb Q mn (br x s t (some (φ,π)) 1) c rest S H (.int .u64 (cF π))∨∃t',Act π t π t'∧∀cb,cb<φ→xb Q mn (br x s t' (some (cb,π)) 1) c rest S H (.int .u64 (cF π))) :
  cf Tryz.prog Q mn (br x s t v 1) (Frame.enter Tryz.prog 168 #[ptr s 0] .normal) (c::rest) H:=by
 letI:bd:=eF;have δ:=η.seq;refine V.pz (z:=one _) (vs:=[ptr s 0]) Tryz.func168 rfl Α (by simp[Tryz.ntmps168]) ?_ _ rfl;refine V.a' (δ _ _ _) rfl ?_;(repeat (first|apply aV|apply wb|apply aX|apply wd|refine al rfl ?_|refine ah rfl ?_|(refine ν fun J I=>?_;simp;(repeat (rw[ζ];simp));apply I;clear I J)));refine W.ca ?_;refine W.part (A:=[]) Θ [0,1,2] [3,4] rfl fun J I=>?_;(try simp);(repeat (rw[ζ];simp));apply I;clear I J;refine W.stop ?_;refine V.Hf (δ _ _ _).here (Nat.succ_pos _) (sp:=sp) η.spec (by rw[bZ];exact cM) ⟨⟨rfl,rfl,by simp[Frame.enter],rfl⟩,MZ,⟨_,rfl⟩,rfl,rfl,rfl⟩ (fun φ π ξ=>(dd φ π ξ).imp (fun h=>?_) (fun⟨t',Ι,ay⟩=>⟨t',by rw[bZ];exact Ι,fun cb ec=>?_⟩))
 ·unfold hG;rw[jF];refine V.a' (δ _ _ _) rfl ?_;refine W.part (A:=[]) Θ [4] [] rfl fun J I=>?_;(try simp);(repeat (rw[ζ];simp));(try simp[]);apply I;clear I J;refine W.bB (.stop ?_);refine V.rX (δ _ _ _) rfl rfl rfl rfl Tryz.func168 rfl rfl fun bE bK H1 μ iZ=>?_;obtain rfl:bK=[]:=dq.1 iZ.len;rintro y rfl;exact h bE H1 μ.ext iZ
 ·rw[gD];refine V.a' (δ _ _ _) rfl ?_;refine W.part (A:=[]) Θ [4] [] rfl fun J I=>?_;(try simp);(repeat (rw[ζ];simp));(try simp[]);apply I;clear I J;refine W.bB (.stop ?_);refine V.rX (δ _ _ _) rfl rfl rfl rfl Tryz.func168 rfl rfl fun bE bK H1 μ iZ=>?_;obtain rfl:bK=[]:=dq.1 iZ.len;rintro y rfl;exact ay cb ec bE H1 μ.ext iZ
theorem Xi (η:lf x s sp) (cM:¬fC t) (Α:Holds S B σ H) {old new:Int}
  (zx:∀φ π,Seen (br x s t v 1) s sp φ π→¬cF π=old→xb Q mn (br x s t (some (φ,π)) 1) c rest S H (.bool false))
  (dd:∀φ π,Seen (br x s t v 1) s sp φ π→cF π=old→∃o' t',cF o'=new∧o'.cz=π.cz∧qG π o'∧Act π t o' t'∧∀cb,cb<φ→xb Q mn (br x s t' (some (cb,o')) 1) c rest S H (.bool true)) :
  cf Tryz.prog Q mn (br x s t v 1) (Frame.enter Tryz.prog 179 #[ptr s 0,.int .u64 old,.int .u64 new] .normal) (c::rest) H:=by
 letI:bd:=eF;have δ:=η.seq;refine V.pz (z:=one _) (vs:=[ptr s 0,.int .u64 old,.int .u64 new]) Tryz.func179 rfl Α (by simp[Tryz.ntmps179]) ?_ _ rfl;refine V.a' (δ _ _ _) rfl ?_;(repeat (first|apply aV|apply wb|apply aX|apply wd|refine al rfl ?_|refine ah rfl ?_|(refine ν fun J I=>?_;simp;(repeat (rw[ζ];simp));apply I;clear I J)));refine W.ca ?_;refine W.part (A:=[]) Θ [0,1,2,3,4] [5,6] rfl fun J I=>?_;(try simp);(repeat (rw[ζ];simp));apply I;clear I J;refine W.stop ?_;refine V.Wh (δ _ _ _).here (Nat.succ_pos _) (sp:=sp) η.spec (by rw[bZ];exact cM) ⟨⟨rfl,rfl,by simp[Frame.enter],rfl⟩,WM,⟨_,rfl⟩,rfl,rfl,rfl⟩ (fun φ π ξ hv=>?_) (fun φ π ξ hv=>?_)
 ·have h:=zx φ π ξ hv;unfold hG;rw[jF];refine V.a' (δ _ _ _) rfl ?_;refine W.part (A:=[]) Θ [6] [] rfl fun J I=>?_;(try simp);(repeat (rw[ζ];simp));(try simp[]);apply I;clear I J;refine W.bB (.stop ?_);refine V.rX (δ _ _ _) rfl rfl rfl rfl Tryz.func179 rfl rfl fun bE bK H1 μ iZ=>?_;obtain rfl:bK=[]:=dq.1 iZ.len;rintro y rfl;exact h bE H1 μ.ext iZ
 ·obtain⟨o',t',R,γ,ο,Ι,ay⟩:=dd φ π ξ hv;refine⟨o',t',R,γ,ο,by rw[bZ];exact Ι,fun cb ec=>?_⟩;rw[gD];refine V.a' (δ _ _ _) rfl ?_;refine W.part (A:=[]) Θ [6] [] rfl fun J I=>?_;(try simp);(repeat (rw[ζ];simp));(try simp[]);apply I;clear I J;refine W.bB (.stop ?_);refine V.rX (δ _ _ _) rfl rfl rfl rfl Tryz.func179 rfl rfl fun bE bK H1 μ iZ=>?_;obtain rfl:bK=[]:=dq.1 iZ.len;rintro y rfl;exact ay cb ec bE H1 μ.ext iZ
end
theorem fj.fI {m nt:Nat} {S au:aA} {B:aN} {H H':ψ} {env:Χ} {t:Array Value} (h:fj m nt S B H [] env t) (he:∀p∈env,∃v,p.2=θ.z v) (Α:Holds au [] [] H'):fj 0 nt au [] H' [] env t:=⟨Α,zJ he h.cj,h.size,Nat.le_refl _⟩
theorem cf.HB [bd] {P:Program} {Q:Value→Prop} {mn:Bool} {x:aR} {c b:Frame} {rest:List Frame} {H:ψ} {t:Array Value} {k:List Item} {fn:Func} {f:FuncId} (δ:Seq (one x)) (g8:Seq (one {x with deaf:=x.deaf-1})) (hd:0<x.deaf) (hb:b.mode=.run) (b7:b.roundOf=none) (et:b.defers=[Go.Conc.dcall f #[]]) (gu:b.kind=.normal) (b':P.funcs[b.fn]?=some fn) (eL:fn.results=#[])
  (he:Entry P f (fun _=>do mark .enable;pure Extern.Race.none_)) (h:cf P Q mn {x with deaf:=x.deaf-1} (c.finish (.tuple #[])) rest H):cf P Q mn x (ao b t (.code .ret::k)) (c::rest) H:=by
 refine aJ.ret (x:=one x) δ hb b7 (fun y Ο=>?_) x rfl;cases Ο;refine cf.Wn δ.here hd hb b7 et he ?_;refine aJ.back (f:={ao {b with defers:=[]} t (.code .ret::k) with mode:=.returning}) (x:=one {x with deaf:=x.deaf-1}) g8 rfl rfl (.inl gu) b' ?_ _ rfl;rw[results_none eL];refine ς.pure' (fun y Ο=>?_);cases Ο;exact h
section
variable {Q:Value→Prop} {mn:Bool} {x:aR} {c:Frame} {rest:List Frame} {S:aA} {B:aN} {σ:List Row} {H:ψ} {s n p:Nat} {sp:Spec} {v:Option (Nat×aK)} {t:Tok}
theorem Xj (η:lf x s sp) (Η:n<sp.top) (Α:Holds S B σ H)
  (Ζ:∀v,xb Q mn (br x s (.par (n+1) (p+1) .add) v 0) c rest S H (.tuple #[])) :
  cf Tryz.prog Q mn (br x s (.par n p .add) v 0) (Frame.enter Tryz.prog 140 #[ptr s 0,.int .i64 1] .normal) (c::rest) H:=by
 letI:bd:=eF;have δ:=η.seq;refine V.pz (z:=one _) (vs:=[ptr s 0,.int .i64 1]) Tryz.func140 rfl Α (by simp[Tryz.ntmps140]) ?_ _ rfl;refine V.a' (δ _ _ _) rfl ?_;(repeat (first|apply aV|apply wb|apply aX|apply wd|refine al rfl ?_|refine ah rfl ?_|(refine ν fun J I=>?_;simp;(repeat (rw[ζ];simp));apply I;clear I J)));refine W.ca (.stop ?_);refine V.disable (δ _ _ _).here ⟨⟨rfl,rfl,by simp[Frame.enter],rfl⟩,zC,⟨_,rfl⟩,rfl,rfl,rfl⟩ ?_;rw[zy];refine V.a' (δ _ _ _) rfl ?_;refine W.bB ?_
 repeat first|apply aV|apply wb|apply aX|apply wd
 refine W.ca (.stop ?_);refine V.Hi (δ _ _ _) ⟨rfl,rfl,by simp[Frame.enter],rfl⟩ rfl rfl rfl ?_;refine V.a' (δ _ _ _) rfl ?_;refine W.bB ?_;(repeat (first|apply aV|apply wb|apply aX|apply wd|refine al rfl ?_|refine ah rfl ?_|(refine ν fun J I=>?_;simp;(repeat (rw[ζ];simp));apply I;clear I J)));refine W.ca (.stop ?_);refine V.Db (δ _ _ _) (vs:=[]) ⟨⟨rfl,rfl,by simp[Frame.enter],rfl⟩,MW,⟨_,rfl⟩,rfl,rfl,rfl⟩ ?_;refine V.a' (δ _ _ _) rfl ?_;refine W.bB ?_;(repeat (first|apply aV|apply wb|apply aX|apply wd|refine al rfl ?_|refine ah rfl ?_|(refine ν fun J I=>?_;simp;(repeat (rw[ζ];simp));apply I;clear I J)));refine W.ca ?_;refine W.part (A:=[]) Θ [0,1,2,3,4,5] [6,7] rfl fun J I=>?_;(try simp);(repeat (rw[ζ];simp[Nm,Nn]));(try simp[Nm,Nn]);apply I;clear I J;refine W.stop ?_;refine V.call (δ _ _ _) ⟨rfl,rfl,by simp[Frame.enter],rfl⟩ rfl rfl rfl ⟨_,Tryz.func166,rfl,rfl⟩ fun bE bK H1 t1 oq μ χ hv=>?_;obtain rfl:=l4 (l:=[ptr s 0,.int .u64 4294967296]) hv;obtain rfl:bK=[]:=dq.1 χ.holds.len;rintro y rfl;refine Xh η id χ.holds fun φ π ξ=>?_;have υ:=ξ.iJ.r5;rw[bZ] at υ;obtain⟨Ξ,ad,aT,ck,gm⟩:=υ.add n p rfl;have gg:=Dq η ξ.spec;have qc:n<π.top:=by rw[show π.top=sp.top by rw[←ξ.spec]];exact Η
 have small:∀a b c d:Nat,a=b+1→b≤c→c<d→d<7→a<8∧b<7∧0<a∧¬a=0:=fun a b c d R γ ο Ι=>by omega
 obtain⟨cc,lJ⟩:∃cc,cc=π.cnt+1:=⟨_,rfl⟩;obtain⟨k1,cx,o6,gμ⟩:=small cc π.cnt n π.top lJ gm qc gg;have p5:cF {π with cnt:=cc}=hA cc 0:=by rw[tl];simp only[Ξ]
 refine⟨{π with cnt:=cc},.par (n+1) (p+1) .add,?_,rfl,⟨rfl,rfl,rfl⟩,by rw[lJ];exact .add qc,fun cb ec cO bJ ku iA=>?_⟩
 ·rw[p5,tl,Ξ,Xe π.cnt cx 0 (by decide),lJ]
 have f1:=Dm cc k1 0 (by decide)
 have f2:=Dn cc k1 0 (by decide)
 have f3:=Dp cc k1 0 (by decide);rw[p5];generalize hA cc 0=w at f1 f2 f3;rw[hO rfl];refine V.here (x:=one _) (m:=0) (nt:=117) ?_ ((χ.put (a:=.z (.int .u64 w)) rfl (.z _)).fI (by simp) iA) _ rfl;have fin:∀(v:Option (Nat×aK)) (env:Χ) (K:List Item),V Tryz.prog Q mn (one (br x s (.par (n+1) (p+1) .add) v 1)) {Frame.enter Tryz.prog 140 #[ptr s 0,.int .i64 1] .normal with defers:=[Go.Conc.dcall 161 #[]]} (c::rest) 117 ⟨cO,[],bJ,[],0⟩ (.code .ret::K) env []:=fun v env K jW jX iF t3 g5 fb=>by
  rintro y rfl;obtain rfl:jX=[]:=dq.1 fb.holds.len;exact cf.HB (δ _ _ _) (δ _ _ 0) (Nat.succ_pos _) rfl rfl rfl rfl Tryz.func140 rfl th (Ζ v jW iF ((μ.ext.trans ku).trans g5.ext) fb.holds)
 refine V.a' (δ _ _ _) rfl ?_;refine W.part (A:=[]) Θ [7] [] rfl fun J I=>?_;(try simp);(repeat (rw[ζ];simp));(try simp[]);apply I;clear I J;refine W.bB ?_;by_cases R:cc=1
 ·(repeat (first|apply aV|apply wb|apply aX|apply wd|refine al rfl ?_|refine ah rfl ?_|(refine ν fun J I=>?_;simp;(repeat (rw[ζ];simp[f1,f2,f3,Hz,R]));apply I;clear I J)));refine W.ca ?_;refine W.part (A:=[]) Θ [0,1,2] [3,4] rfl fun J I=>?_;(try simp);(repeat (rw[ζ];simp));apply I;clear I J;refine W.stop ?_;refine V.conv (δ _ _ _).here (sp:=sp) η.spec (by rw[bZ];exact id) ⟨rfl,rfl,by simp[Frame.enter],rfl⟩ rfl rfl rfl M3 ti M4 rfl (fun π w Β bx=>⟨_,bx.Ξ⟩) (fun φ π ξ=>?_);unfold hG;rw[jF];refine V.Wf η.rel bZ (by simp) ⟨⟨rfl,rfl,by simp[Frame.enter],rfl⟩,WK,⟨_,rfl⟩,rfl,rfl,rfl⟩ ?_;refine V.a' (δ _ _ _) rfl ?_;refine W.bB ?_;(repeat (first|apply aV|apply wb|apply aX|apply wd|refine al rfl ?_|refine ah rfl ?_|(refine ν fun J I=>?_;simp;(repeat (rw[ζ];simp[f1,f2,f3,Hz,R]));apply I;clear I J)));exact .stop (fin _ _ _)
 ·have vT:¬(cc:Int)=1:=fun h=>R (by exact_mod_cast h);(repeat (first|apply aV|apply wb|apply aX|apply wd|refine al rfl ?_|refine ah rfl ?_|(refine ν fun J I=>?_;simp;(repeat (rw[ζ];simp[f1,f2,f3,Hz,R,vT,o6]));apply I;clear I J)));exact .stop (fin _ _ _)
end
end Go.TL
