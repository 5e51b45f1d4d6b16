import Derived.Test.YtlabjopijpkiaaaGreatVAU
set_option maxHeartbeats 16000000
set_option maxRecDepth 20000
set_option linter.unusedSectionVars false
set_option linter.unusedSimpArgs false
set_option linter.unusedVariables false
namespace Go.TL
open Go.Conc Go.Proofs
open Go.ConcN (sumTo upd sumTo_upd upd_ne upd_same sumTo_congr le_sumTo)
structure jF (x:aZ) (s m:Nat) (sp:Spec):Prop where
 rel:x.rel=false
 aM:x.aM=λ_=>none
 spec:x.spec s=some sp
 aW:sp.aW=some m
 top:sp.top<7
 still:∀bm,bm≠s->nm (x.tok bm)
theorem jF.seq {x:aZ} {s m:Nat} {sp:Spec} (h:jF x s m sp):∀t v d,@Seq e1 (one (bx x s t v d)):=λt v d=>@Seq.uu e1 _ trivial h.rel h.aM
theorem cx.Yi [bn] {P:Program} {Q:Value->Prop} {mn:Bool} {x:aZ} {c b:Frame} {rest:List Frame} {H:χ} {t:Array Value} {ops:Array Oper} {k:List Item} {fn:Func} (γ:Seq (one x)) (hb:b.mode=.run) (cn:b.roundOf=none) (eR:b.defers=[]) (gY:b.kind=.normal) (bM:P.funcs[b.fn]?=some fn) (e6:fn.results=#[])
  (h:cx P Q mn x (c.finish (.tuple #[])) rest H):cx P Q mn x (aA b t (.inRegion ops []::.code .ret::k)) (c::rest) H:=by
 refine aR.bJ (x:=one x) γ hb (.ret γ hb cn (.back γ rfl eR (.inl gY) bM ?_)) x rfl;rw[results_none e6];exact π.pure' (λy Ι=>by cases Ι;exact h)
abbrev ptr (b o:Nat):Value:=.pointer (some ⟨b,o,none⟩)
section
variable {Q:Value->Prop} {mn:Bool} {x:aZ} {c:Frame} {rest:List Frame} {S:aJ} {B:aV} {σ:List Row} {H:χ} {s m k:Nat} {sp:Spec} {v:Option (Nat×aS)}
def sZ (Q:Value->Prop) (mn:Bool) (x:aZ) (c:Frame) (rest:List Frame) (S:aJ) (H:χ) (s k:Nat) (sp:Spec):Prop:=
 ∀(aE:aJ) (H':χ) (L:List Nat) (E:χ),Ext S [] H aE [] H'->Holds aE [] [] H'->sp.an L E->Apart H' E->(L.Nodup/\k∉L/\∃w,Fits H' w/\Fits E w)->cx Tryz.prog Q mn (bx x s (.ch k (.dr L) .work) none 0) (c.finish (.tuple #[])) rest (join H' E)
def Oj (Q:Value->Prop) (mn:Bool) (x:aZ) (s m k:Nat) (sp:Spec):Prop:=∀(c:Frame) (rest:List Frame) (S:aJ) (B:aV) (σ:List Row) (H:χ) (v:Option (Nat×aS)),Holds S B σ H->sZ Q mn x c rest S H s k sp->
 cx Tryz.prog Q mn (bx x s (.ch k (.act false) .work) v 1) (Frame.enter Tryz.prog 213 #[ptr m 0] .normal) (c::rest) H
theorem Yj (δ:jF x s m sp) (Α:Holds S B σ H) (Yk:Oj Q mn x s m k sp)
  (Κ:sZ Q mn x c rest S H s k sp):cx Tryz.prog Q mn (bx x s (.ch k .idle .work) v 0) (Frame.enter Tryz.prog 175 #[ptr m 0] .normal) (c::rest) H:=by
 letI:bn:=e1;have γ:=δ.seq;refine V.qo (z:=one _) (vs:=[ptr m 0]) Tryz.func175 rfl Α (by simp[Tryz.ntmps175]) ?_ _ rfl;refine V.b6 (γ _ _ _) ?_
 repeat first|apply a3|apply wb|apply a4|apply wd
 refine W.cr (.stop ?_);refine V.disable (γ _ _ _).here ⟨⟨rfl,rfl,by simp[Frame.enter],rfl⟩,AA,⟨_,rfl⟩,rfl,rfl,rfl⟩ ?_;rw[Aw];refine V.b6 (γ _ _ _) ?_;refine W.bJ ?_
 repeat first|apply a3|apply wb|apply a4|apply wd
 refine W.cr ?_;refine fw [0,1,2] [3] ?_;refine W.stop ?_;refine V.Eo (γ _ _ _).here (Nat.succ_pos _) (sp:=sp) δ.spec (by rw[b7];exact id) δ.aW ⟨⟨rfl,rfl,by simp[Frame.enter],rfl⟩,Ew,⟨_,rfl⟩,rfl,rfl,rfl⟩ (λφ ξ ν hv=>?_) (λφ ξ ν hv=>?_)
 ·refine .inr ⟨.ch k (.act false) .work,by rw[b7];exact .Ru,λcu _=>?_⟩;rw[g6];refine V.b6 (γ _ _ _) ?_;refine W.bJ ?_
  repeat first|apply a3|apply wb|apply a4|apply wd
  refine aa rfl ?_
  repeat first|apply a3|apply wb|apply a4|apply wd
  refine W.cr ?_;refine fw [0] [1] ?_;refine W.stop ?_;refine V.call (γ _ _ _) ⟨rfl,rfl,by simp[Frame.enter],rfl⟩ rfl rfl rfl ⟨_,Tryz.func213,rfl,rfl⟩ λbN bT H1 t1 o7 κ ψ hv=>?_;obtain rfl:=m1 (l:=[ptr m 0]) hv;rintro y rfl;refine Yk _ _ bN bT _ H1 _ ψ.holds λc9 bR L E lr jx cQ ib wm=>?_;rw[iF rfl];refine cx.leave0 (γ _ _ _) rfl rfl rfl rfl Tryz.func175 rfl ?_;obtain rfl:bT=[]:=dG.1 ψ.holds.len;exact Κ c9 bR L E (κ.ext.trans lr) jx cQ ib wm
 ·have aj:ξ.ck=0/\ξ.sv=0/\ξ.wk=0/\ξ.nw=0:=by simp only[mwd] at hv;omega
  refine⟨{ξ with ck:=1},.ch k .own .work,by simp[mwd];omega,rfl,⟨rfl,rfl,rfl⟩,by rw[b7];exact .Rt aj.1 aj.2.1 aj.2.2.1 aj.2.2.2,λcu _=>?_⟩;rw[g6];refine V.b6 (γ _ _ _) ?_;refine W.bJ ?_
  repeat first|apply a3|apply wb|apply a4|apply wd
  refine ai rfl ?_
  repeat first|apply a3|apply wb|apply a4|apply wd
  refine ai rfl ?_
  repeat first|apply a3|apply wb|apply a4|apply wd
  refine W.cr (.stop ?_);refine V.enable (γ _ _ _).here (Nat.succ_pos _) ⟨⟨rfl,rfl,by simp[Frame.enter],rfl⟩,uw,⟨_,rfl⟩,rfl,rfl,rfl⟩ ?_;rw[Ax];refine V.b6 (γ _ _ _) ?_;refine W.bJ ?_
  repeat first|apply a3|apply wb|apply a4|apply wd
  refine W.cr ?_;refine fw [0] [1,2] ?_;refine W.stop ?_;refine V.conv (γ _ _ _).here (sp:=sp) δ.spec (by rw[b7];exact id) ⟨rfl,rfl,by simp[Frame.enter],rfl⟩ rfl rfl rfl Ik uy Il rfl (λξ w ω bE=>⟨_,bE.dR (by rw[ω];exact δ.aW)⟩) (λφ ξ ν=>?_);unfold iv;rw[kA];refine V.Cb δ.rel rfl (sp:=sp) δ.spec δ.aW b7 ⟨⟨rfl,rfl,by simp[Frame.enter],rfl⟩,Ev,⟨_,rfl⟩,rfl,rfl,rfl⟩ λbN bT H1 t1 L E κ ψ cQ ib wm=>?_;rw[g6];obtain rfl:bT=[]:=dG.1 ψ.holds.len;refine cx.Yi (γ _ _ _) rfl rfl rfl rfl Tryz.func175 rfl ?_;exact Κ bN H1 L E κ.ext ψ.holds cQ ib wm
end
def dV:List Nat->Code->Code
 | [],c=>c
 | 0::l,.seq a _=>dV l a
 | _::l,.seq _ b=>dV l b
 | 0::l,.cond _ a _=>dV l a
 | _::l,.cond _ _ b=>dV l b
 | _::l,.block _ c=>dV l c
 | _::l,.loop c=>dV l c
 | _,c=>c
noncomputable def qu:Code:=Tryz.f213.body.getD .skip
noncomputable def m3:Code:=dV [1,1,1,1,1,0,0,0] qu
noncomputable def qv:Code:=dV [0,1] m3
noncomputable def rJ:Code:=dV [1,1,1,1,1] qv
noncomputable def m4:Code:=dV [1,0] rJ
noncomputable def AB:Code:=dV [1,1,1,1,1,1] qu
noncomputable def lu:List Item:=[.inLoop m3,.inBlock 0,.code AB]
abbrev j6 (Q:Value->Prop) (mn:Bool) (x:aZ) (c:Frame) (rest:List Frame) (S:aJ) (H:χ) (s m:Nat) (t:Tok) (v:Option (Nat×aS)) (d:Nat) (K:List Item) (env:Ω):Prop:=
 V Tryz.prog Q mn (one (bx x s t v d)) (Frame.enter Tryz.prog 213 #[ptr m 0] .normal) (c::rest) 139 ⟨S,[],H,[],0⟩ K env []
def c8 (m:Nat) (w:Int) (aw st:Bool) (it τ:Int):Ω:=[(0,.z (ptr m 0)),(2,.z (.int .i64 τ)),(3,.z (.bool st)),(4,.z (.bool aw)),(5,.z (.int .i64 it)),(6,.z (.int .i32 w))]
def ph (a b c n:Nat) (aw st:Bool):Int:=
 if a=0/\c=0 then g7 1 (if aw then 0 else b) 0 n else g7 a (if aw then 0 else b) (if st=true/\a=1 then 1 else c) (n+1)
section
variable {Q:Value->Prop} {mn:Bool} {x:aZ} {c:Frame} {rest:List Frame} {S:aJ} {B:aV} {σ:List Row} {H:χ} {s m k:Nat} {sp:Spec} {v:Option (Nat×aS)} {t:Tok}
theorem Yl (δ:jF x s m sp) {a b ef n:Nat} {aw st:Bool} {it τ:Int} (κ:a<2) (hb:b<2) (ic:ef<2) (Ζ:n<7) (Ym:aw=true->ef=0/\b=1) (cF:st=true->aw=true)
  (hC:j6 Q mn x c rest S H s m t v 1 (.code (dV [0] rJ)::.code (dV [1] rJ)::.inBlock 1::lu) (c8 m (g7 a b ef n) aw st it τ++[(7,.z (.int .i32 (ph a b ef n aw st)))])) :
  j6 Q mn x c rest S H s m t v 1 (.code qv::.inBlock 1::lu) (c8 m (g7 a b ef n) aw st it τ):=by
 letI:bn:=e1;have γ:=δ.seq;have ia:(a=0\/a=1)/\(ef=0\/ef=1):=R;have cL:=Ih a κ b hb ef ic n R;have fa:=Ig a κ b hb ef ic n R;have Δ:=X5 a κ b hb ef ic n R;have dJ:=X6 a κ b hb ef ic n R;have uz:=X9 a κ b hb ef ic n Ζ;refine V.b6 (γ _ _ _) ?_;unfold qv m3 qu;cases aw with
 | false=>
  have ν:st=false:=by cases st<;>simp_all
  subst ν;rcases ia with⟨rfl|rfl,rfl|rfl⟩
  ·(repeat (first|apply a3|apply wb|apply a4|apply wd|refine ai rfl ?_|refine aa rfl ?_|(refine bs λΕ ζ=>?_;simp;(repeat (rw[Ο];simp[c8,cL,fa,dJ]));apply ζ)));exact W.forget _ (by simp[c8,ph]) (.stop hC)
  ·(repeat (first|apply a3|apply wb|apply a4|apply wd|refine ai rfl ?_|refine aa rfl ?_|(refine bs λΕ ζ=>?_;simp;(repeat (rw[Ο];simp[c8,cL,fa,uz]));apply ζ)));exact W.forget _ (by simp[c8,ph]) (.stop hC)
  ·(repeat (first|apply a3|apply wb|apply a4|apply wd|refine ai rfl ?_|refine aa rfl ?_|(refine bs λΕ ζ=>?_;simp;(repeat (rw[Ο];simp[c8,cL,fa,dJ,uz]));apply ζ)));exact W.forget _ (by simp[c8,ph]) (.stop hC)
  ·(repeat (first|apply a3|apply wb|apply a4|apply wd|refine ai rfl ?_|refine aa rfl ?_|(refine bs λΕ ζ=>?_;simp;(repeat (rw[Ο];simp[c8,cL,fa,uz]));apply ζ)));exact W.forget _ (by simp[c8,ph]) (.stop hC)
 | true=>
  obtain⟨rfl,rfl⟩:=Ym rfl;rcases ia with⟨rfl|rfl,-⟩
  ·have dx:=Eu 1 R 1 R 0 R n R
   have p2:=Ii 1 R 1 R 0 R n R;cases st
   ·(repeat (first|apply a3|apply wb|apply a4|apply wd|refine ai rfl ?_|refine aa rfl ?_|(refine bs λΕ ζ=>?_;simp;(repeat (rw[Ο];simp[c8,cL,fa,dJ,dx,p2]));apply ζ)));exact W.forget _ (by simp[c8,ph]) (.stop hC)
   ·(repeat (first|apply a3|apply wb|apply a4|apply wd|refine ai rfl ?_|refine aa rfl ?_|(refine bs λΕ ζ=>?_;simp;(repeat (rw[Ο];simp[c8,cL,fa,Δ,dJ,dx,p2]));apply ζ)));exact W.forget _ (by simp[c8,ph]) (.stop hC)
  ·cases st
   ·have dx:=Eu 1 R 1 R 0 R (n+1) R
    have p2:=Ii 1 R 1 R 0 R (n+1) R;(repeat (first|apply a3|apply wb|apply a4|apply wd|refine ai rfl ?_|refine aa rfl ?_|(refine bs λΕ ζ=>?_;simp;(repeat (rw[Ο];simp[c8,cL,fa,dJ,uz,dx,p2]));apply ζ)));exact W.forget _ (by simp[c8,ph]) (.stop hC)
   ·have ju:=X8 1 R 1 R 0 R (n+1) R
    have dx:=Eu 1 R 1 R 1 R (n+1) R
    have p2:=Ii 1 R 1 R 1 R (n+1) R;(repeat (first|apply a3|apply wb|apply a4|apply wd|refine ai rfl ?_|refine aa rfl ?_|(refine bs λΕ ζ=>?_;simp;(repeat (rw[Ο];simp[c8,cL,fa,Δ,dJ,uz,ju,dx,p2]));apply ζ)));exact W.forget _ (by simp[c8,ph]) (.stop hC)
theorem Ol (δ:jF x s m sp) (Κ:sZ Q mn x c rest S H s k sp) {env:Ω} (aj:a9 env 0=.z (ptr m 0)):j6 Q mn x c rest S H s m (.ch k .own .work) v 1 [.code AB] env:=by
 letI:bn:=e1;have γ:=δ.seq;refine V.b6 (γ _ _ _) ?_;unfold AB qu;refine ai rfl ?_
 repeat first|apply a3|apply wb|apply a4|apply wd
 refine W.cr (.stop ?_);refine V.enable (γ _ _ _).here (Nat.succ_pos _) ⟨⟨rfl,rfl,by simp[Frame.enter],rfl⟩,uw,⟨_,rfl⟩,rfl,rfl,rfl⟩ ?_;rw[Ax];refine V.b6 (γ _ _ _) ?_;refine W.bJ ?_
 repeat first|apply a3|apply wb|apply a4|apply wd
 refine W.cr ?_;refine W.part (A:=[]) Ρ [0] [1,2] rfl λΕ ζ=>?_;simp;(repeat (rw[Ο];simp[aj]));apply ζ;refine W.stop ?_;refine V.conv (γ _ _ _).here (sp:=sp) δ.spec (by rw[b7];exact id) ⟨rfl,rfl,by simp[Frame.enter],rfl⟩ rfl rfl rfl Ik uy Il rfl (λξ w ω bE=>⟨_,bE.dR (by rw[ω];exact δ.aW)⟩) (λφ ξ ν=>?_);unfold iv;rw[kA];refine V.Cb δ.rel rfl (sp:=sp) δ.spec δ.aW b7 ⟨⟨rfl,rfl,by simp[Frame.enter],rfl⟩,Ev,⟨_,rfl⟩,rfl,rfl,rfl⟩ λbN bT H1 t1 L E κ ψ cQ ib wm=>?_;rw[g6];obtain rfl:bT=[]:=dG.1 ψ.holds.len;refine cx.leave0 (γ _ _ _) rfl rfl rfl rfl Tryz.func213 rfl ?_;exact Κ bN H1 L E κ.ext ψ.holds cQ ib wm
end
section
variable {Q:Value->Prop} {mn:Bool} {x:aZ} {c:Frame} {rest:List Frame} {S:aJ} {B:aV} {σ:List Row} {H:χ} {s m k:Nat} {sp:Spec} {v:Option (Nat×aS)} {t:Tok}
theorem Ex:(Tryz.prog.funcs[213]?).any (·.norace)=true:=by kernel_rfl
theorem Om:(Tryz.prog.funcs[245]?).any (·.norace)=true:=by kernel_rfl
def AD (Q:Value->Prop) (mn:Bool) (x:aZ) (c:Frame) (rest:List Frame) (S:aJ) (H:χ) (s m k:Nat) (sp:Spec) (φ:Nat):Prop:=
 ∀(cu:Nat) (ξ:aS) (aw st:Bool) (it τ:Int),cu<φ->ξ.toSpec=sp->sX ξ (.ch k (.act aw) .work)->(st=true->aw=true)->0<=it->it<=4->j6 Q mn x c rest S H s m (.ch k (.act aw) .work) (some (cu,ξ)) 1 lu (c8 m (mwd ξ) aw st it τ)
theorem On {ξ:aS} {aw:Bool} (h:sX ξ (.ch k (.act aw) .work)):aw=true->ξ.sv=0/\ξ.wk=1:=λe=>h.BJ (by rw[e];rfl)
theorem Yn (δ:jF x s m sp) (Κ:sZ Q mn x c rest S H s k sp) {φ:Nat} (Β:AD Q mn x c rest S H s m k sp φ) {gS:Nat} {lx:aS} (aj:gS<φ) {st:Bool} {τ:Int} :
  j6 Q mn x c rest S H s m (.ch k .wk .work) (some (gS,lx)) 1 (.code (dV [1,1,1,1,1] m4)::.inBlock 1::lu) [(0,.z (ptr m 0)),(2,.z (.int .i64 τ)),(3,.z (.bool st))]:=by
 letI:bn:=e1;have γ:=δ.seq;refine V.b6 (γ _ _ _) ?_;unfold m4 rJ qv m3 qu
 repeat first|apply a3|apply wb|apply a4|apply wd
 refine W.cr ?_;refine fw [0,1,2] [3,4] ?_;refine W.stop ?_;refine V.x' (γ _ _ _).here (sp:=sp) δ.spec (by rw[b7];exact id) ⟨rfl,rfl,by simp[Frame.enter],rfl⟩ rfl rfl rfl ya rfl Ex mwd (λξ w ω bE=>bE.dR (by rw[ω];exact δ.aW)) (λg8 ξ ν=>.inr ?_);have ς:=ν.jE.np;rw[b7] at ς;have hv:=ν.view gS lx pf;have Oo:=ς.yU rfl;have gP:ξ.top<7:=by have:=δ.top;rw[show ξ.top=sp.top by rw[<-ν.spec]];exact this
 have Ζ:=ς.nw
 have ο:=ς.ck;have hw:=ς.wk;have qk:=ς.sv
 have cL:=Ih ξ.ck R ξ.wk R ξ.sv R ξ.nw R
 have a2:=X3 ξ.ck R ξ.wk R ξ.sv R ξ.nw R
 have me:=Ij ξ.ck R ξ.wk R ξ.sv R ξ.nw R;rw[<-pg] at cL a2 me;rcases(show ξ.sv=0\/ξ.sv=1 by omega) with nN|nN
 ·refine⟨.ch k (.act true) .work,by rw[b7];exact .norm nN,λcu eD=>?_⟩;rw[g6];rw[nN] at cL;refine V.b6 (γ _ _ _) ?_;refine W.part (A:=[]) Ρ [4] [] rfl λΕ ζ=>?_;(try simp);(repeat (rw[Ο];simp[]));(try simp[]);apply ζ;refine W.bJ ?_;(repeat (first|apply a3|apply wb|apply a4|apply wd|refine ai rfl ?_|refine aa rfl ?_|(refine bs λΕ ζ=>?_;simp;(repeat (rw[Ο];simp[cL]));apply ζ)));refine W.forget (c8 m (mwd ξ) true st 0 τ) (by simp[c8]) (.stop ?_);exact Β cu ξ true st 0 τ R ν.spec ⟨ς.ck,ς.wk,ς.sv,ς.dd,ς.nw,λ_=>⟨nN,Oo.1 nN⟩,λh=>(by cases h),λh=>(by cases h),λh=>(by cases h)⟩ (λ_=>rfl) R R
 ·obtain⟨Χ,ak,aY⟩:=Oo.2 nN;refine⟨.ch k .hw .work,by rw[b7];exact .hand nN,λcu eD=>?_⟩;rw[g6];rw[nN] at cL;rw[Χ,ak] at a2;have bA:¬ξ.nw=0:=R;have Oq:IntKind.i32.wrap (-11)=-11:=bu;have fin:∀(w:Option (Nat×aS)) (env:Ω),a9 env 0=.z (ptr m 0)->j6 Q mn x c rest S H s m (.ch k .own .work) w 1 [.code AB] env:=λw env h=>Ol δ Κ h;have add:∀(qL:Bool) (env:Ω),a9 env 0=.z (ptr m 0)->a9 env 9=.z (.int .i32 (if qL then -11 else -7))->j6 Q mn x c rest S H s m (.ch k .hw .work) (some (cu,ξ)) 1 (.code (dV [1,1,1,1,1,1,0,1,0,1,1,1,0] m4)::.code (dV [1,1,1,1,1,1,0,1,0,1,1,1,1] m4)::.code (dV [1,1,1,1,1,1,1] m4)::.inBlock 1::lu) env:=λqL env aj tr=>by
   refine V.b6 (γ _ _ _) ?_;unfold m4 rJ qv m3 qu
   repeat first|apply a3|apply wb|apply a4|apply wd
   refine W.cr ?_;refine W.part (A:=[]) Ρ [0,1,2,3] [4] rfl λΕ ζ=>?_;(try simp);(repeat (rw[Ο];simp[aj,tr]));(try simp[aj,tr]);apply ζ;refine W.stop ?_;refine V.N0 (γ _ _ _).here (Nat.succ_pos _) (sp:=sp) δ.spec (by rw[b7];exact id) δ.aW (d:=if qL then -11 else -7) ⟨⟨rfl,rfl,by simp[Frame.enter],rfl⟩,Oc,⟨_,rfl⟩,rfl,rfl,rfl⟩ (λh0 fT ea=>?_);have e3:=ea.jE.np;rw[b7] at e3;obtain⟨f1,f2,f3,f4⟩:=e3.hw rfl;have iΔ:fT.top<7:=by have:=δ.top;rw[show fT.top=sp.top by rw[<-ea.spec]];exact this
   have Aj:=e3.nw;refine⟨{fT with ck:=1,nw:=fT.nw-1,sv:=if qL then 0 else 1},.ch k .own .work,?_,rfl,⟨rfl,rfl,rfl⟩,by rw[b7];exact .hacq qL,λyb _=>?_⟩
   ·cases qL<;>simp[mwd,IntKind.wrap_i32,f1,f2,f3]<;>omega
   ·rw[g6];refine V.b6 (γ _ _ _) ?_;refine W.bJ ?_
    repeat first|apply a3|apply wb|apply a4|apply wd
    refine W.exit rfl (.stop ?_);refine fin _ _ ?_;simp[aj]
  refine V.b6 (γ _ _ _) ?_;refine W.part (A:=[]) Ρ [4] [] rfl λΕ ζ=>?_;(try simp);(repeat (rw[Ο];simp[]));(try simp[]);apply ζ;refine W.bJ ?_;cases st with
  | false=>
   (repeat (first|apply a3|apply wb|apply a4|apply wd|refine ai rfl ?_|refine aa rfl ?_|(refine bs λΕ ζ=>?_;simp;(repeat (rw[Ο];simp[cL,a2,me,bA,Oq]));apply ζ)));exact .stop (add true _ rfl rfl)
  | true=>
   by_cases J:ξ.nw=1
   ·(repeat (first|apply a3|apply wb|apply a4|apply wd|refine ai rfl ?_|refine aa rfl ?_|(refine bs λΕ ζ=>?_;simp;(repeat (rw[Ο];simp[cL,a2,me,bA,J,Oq]));apply ζ)));exact .stop (add true _ rfl rfl)
   ·have xi:¬(ξ.nw:Int)=1:=by omega
    (repeat (first|apply a3|apply wb|apply a4|apply wd|refine ai rfl ?_|refine aa rfl ?_|(refine bs λΕ ζ=>?_;simp;(repeat (rw[Ο];simp[cL,a2,me,bA,J,xi]));apply ζ)));exact .stop (add false _ rfl rfl)
theorem Yo (δ:jF x s m sp) (Κ:sZ Q mn x c rest S H s k sp) {φ:Nat} (Β:AD Q mn x c rest S H s m k sp φ) {gS:Nat} {lx:aS} (aj:gS<φ) {st y:Bool} {τ:Int} :
  j6 Q mn x c rest S H s m (.ch k .q .work) (some (gS,lx)) 1 (.code (dV [1,1,1,0] m4)::.code (dV [1,1,1,1] m4)::.inBlock 1::lu) [(0,.z (ptr m 0)),(2,.z (.int .i64 τ)),(3,.z (.bool st)),(8,.z (.bool y))]:=by
 letI:bn:=e1;have γ:=δ.seq;have next:∀(g8:Nat) (gh:aS) (st:Bool),g8<φ->j6 Q mn x c rest S H s m (.ch k .wk .work) (some (g8,gh)) 1 (.code (dV [1,1,1,1,1] m4)::.inBlock 1::lu) [(0,.z (ptr m 0)),(2,.z (.int .i64 τ)),(3,.z (.bool st))]:=λg8 gh st J=>Yn δ Κ Β J
 refine V.b6 (γ _ _ _) ?_;unfold m4 rJ qv m3 qu
 repeat first|apply a3|apply wb|apply a4|apply wd
 refine W.cr ?_;refine fw [0,1,2,3] [4] ?_;refine W.stop ?_;refine V.XJ (γ _ _ _).here (sp:=sp) δ.spec (by rw[b7];exact id) δ.aW (vs:=[ptr m 1,.bool y,.int .i64 2]) rfl (λbm jo=>by rw[Ay jo];exact δ.still bm jo) ⟨⟨rfl,rfl,by simp[Frame.enter],rfl⟩,Yf,⟨_,rfl⟩,rfl,rfl,rfl⟩ (λg8 ξ ν h=>by rw[b7];exact h) (λg8 ξ ν h=>?_);have hv:=ν.view gS lx pf;refine⟨{ξ with dd:=ξ.dd-1},.ch k .wk .work,rfl,rfl,⟨rfl,rfl,rfl⟩,by rw[b7];exact .take h,λh0 eD=>?_⟩;rw[g6];refine V.b6 (γ _ _ _) ?_;refine W.bJ ?_;cases st with
 | true=>
  first|apply a3|apply wb|apply a4|apply wd
  refine bs λΕ ζ=>?_;(try simp);(repeat (rw[Ο];simp[]));(try simp[]);apply ζ;refine W.forget [(0,.z (ptr m 0)),(2,.z (.int .i64 τ)),(3,.z (.bool true))] η (.stop ?_);exact next h0 _ true R
 | false=>
  first|apply a3|apply wb|apply a4|apply wd
  refine W.cr ?_;refine fw [0,1] [2,3,4,5,6,7] ?_;refine W.stop ?_;refine V.nano (γ _ _ _) (vs:=[]) ⟨⟨rfl,rfl,by simp[Frame.enter],rfl⟩,Of,⟨_,rfl⟩,rfl,rfl,rfl⟩ Om λeW=>?_;refine V.b6 (γ _ _ _) ?_;refine W.part (A:=[]) Ρ [3,4,5,6,7] [] rfl λΕ ζ=>?_;(try simp);(repeat (rw[Ο];simp[]));(try simp[]);apply ζ;refine W.bJ ?_;refine W.forget [(0,.z (ptr m 0)),(2,.z (.int .i64 τ)),(3,.z (.bool (decide (1000000<IntKind.i64.wrap (eW-τ)))))] η (.stop ?_);exact next h0 _ _ R
theorem Yp (δ:jF x s m sp) (Κ:sZ Q mn x c rest S H s k sp) {φ:Nat} (Β:AD Q mn x c rest S H s m k sp φ) {gS:Nat} {lx:aS} (aj:gS<φ) {w:Int} {aw st:Bool} {it τ:Int} (av:¬eY .i32 w 5=0) :
  j6 Q mn x c rest S H s m (.ch k .q .work) (some (gS,lx)) 1 (.code m4::.inBlock 1::lu) (c8 m w aw st it τ):=by
 letI:bn:=e1;have γ:=δ.seq;have next:∀(τ:Int) (y:Bool),j6 Q mn x c rest S H s m (.ch k .q .work) (some (gS,lx)) 1 (.code (dV [1,1,1,0] m4)::.code (dV [1,1,1,1] m4)::.inBlock 1::lu) [(0,.z (ptr m 0)),(2,.z (.int .i64 τ)),(3,.z (.bool st)),(8,.z (.bool y))]:=λτ y=>Yo δ Κ Β aj
 refine V.b6 (γ _ _ _) ?_;unfold m4 rJ qv m3 qu;by_cases h:τ=0
 ·subst h;(repeat (first|apply a3|apply wb|apply a4|apply wd|refine ai rfl ?_|refine aa rfl ?_|(refine bs λΕ ζ=>?_;simp;(repeat (rw[Ο];simp[c8,av]));apply ζ)));refine W.cr (.stop ?_);refine V.nano (γ _ _ _) (vs:=[]) ⟨⟨rfl,rfl,by simp[Frame.enter],rfl⟩,Of,⟨_,rfl⟩,rfl,rfl,rfl⟩ Om λeW=>?_;refine V.b6 (γ _ _ _) ?_;refine W.part (A:=[]) Ρ [1] [] rfl λΕ ζ=>?_;(try simp);(repeat (rw[Ο];simp[]));(try simp[]);apply ζ;refine W.bJ ?_
  first|apply a3|apply wb|apply a4|apply wd
  refine W.forget [(0,.z (ptr m 0)),(2,.z (.int .i64 eW)),(3,.z (.bool st)),(8,.z (.bool false))] η (.stop ?_);exact next eW false
 ·(repeat (first|apply a3|apply wb|apply a4|apply wd|refine ai rfl ?_|refine aa rfl ?_|(refine bs λΕ ζ=>?_;simp;(repeat (rw[Ο];simp[c8,av,h]));apply ζ)));refine W.forget [(0,.z (ptr m 0)),(2,.z (.int .i64 τ)),(3,.z (.bool st)),(8,.z (.bool true))] (by simp[h]) (.stop ?_);exact next τ true
end
theorem Ot {a b:aS} {t u:Tok} (κ:sX a t) (hb:sX b u) (h:mwd a=mwd b):a.ck=b.ck/\a.wk=b.wk/\a.sv=b.sv/\a.nw=b.nw:=by
 have:=κ.ck;have:=κ.wk;have:=κ.sv;have:=hb.ck;have:=hb.wk;have:=hb.sv;simp only[mwd] at h;omega
section
variable {Q:Value->Prop} {mn:Bool} {x:aZ} {c:Frame} {rest:List Frame} {S:aJ} {B:aV} {σ:List Row} {H:χ} {s m k:Nat} {sp:Spec} {v:Option (Nat×aS)} {t:Tok}
theorem AE (δ:jF x s m sp) {ξ:aS} (h:ξ.toSpec=sp):ξ.top<7:=by have:=δ.top;rw[show ξ.top=sp.top by rw[<-h]];exact this
theorem Yq (δ:jF x s m sp) (Κ:sZ Q mn x c rest S H s k sp) {φ:Nat} {ξ:aS} (Β:AD Q mn x c rest S H s m k sp φ) (ω:ξ.toSpec=sp) {aw st:Bool} {it τ:Int} (ς:sX ξ (.ch k (.act aw) .work)) (cF:st=true->aw=true) (k2:0<=it) (Ey:it<=4) :
  j6 Q mn x c rest S H s m (.ch k (.act aw) .work) (some (φ,ξ)) 1 (.code (dV [0] rJ)::.code (dV [1] rJ)::.inBlock 1::lu) (c8 m (mwd ξ) aw st it τ++[(7,.z (.int .i32 (ph ξ.ck ξ.wk ξ.sv ξ.nw aw st)))]):=by
 letI:bn:=e1;have γ:=δ.seq;have tD:=On ς;have gP:=AE δ ω;have ο:=ς.ck;have hw:=ς.wk;have qk:=ς.sv;have Ζ:=ς.nw;have fa:=Ig ξ.ck R ξ.wk R ξ.sv R ξ.nw R;rw[<-pg] at fa;have fin:∀(w:Option (Nat×aS)) (env:Ω),a9 env 0=.z (ptr m 0)->j6 Q mn x c rest S H s m (.ch k .own .work) w 1 [.code AB] env:=λw env h=>Ol δ Κ h;have tail:∀(gS:Nat) (lx:aS),gS<φ->¬eY .i32 (mwd ξ) 5=0->j6 Q mn x c rest S H s m (.ch k .q .work) (some (gS,lx)) 1 (.code m4::.inBlock 1::lu) (c8 m (mwd ξ) aw st it τ):=λgS lx aj av=>Yp δ Κ Β aj av;refine V.b6 (γ _ _ _) ?_;unfold rJ qv m3 qu;refine W.cr ?_;refine W.part (A:=[]) Ρ [0,1,2,3,4] [5] rfl λΕ ζ=>?_;(try simp);(repeat (rw[Ο];simp[c8]));(try simp[c8]);apply ζ;refine W.stop ?_;refine V.Eo (γ _ _ _).here (Nat.succ_pos _) (sp:=sp) δ.spec (by rw[b7];exact id) δ.aW ⟨⟨rfl,rfl,by simp[Frame.enter],rfl⟩,Ew,⟨_,rfl⟩,rfl,rfl,rfl⟩ (λg8 gh ν hv=>.inl ?_) (λg8 gh ν hv=>?_)
 ·
  have pY:=ν.view φ ξ pf
  have J:g8<φ:=by
   rcases Nat.lt_or_ge g8 φ with h|h
   ·exact h
   ·exact absurd (by rw[pY.2 R]) hv
  unfold iv;rw[kA];refine V.b6 (γ _ _ _) ?_;refine W.bJ ?_
  repeat (first|apply a3|apply wb|apply a4|apply wd)
  refine aa rfl ?_;refine W.cr ?_;refine fw [0,1,2] [3,4] ?_;refine W.stop ?_;refine V.x' (γ _ _ _).here (sp:=sp) δ.spec (by rw[b7];exact id) ⟨rfl,rfl,by simp[Frame.enter],rfl⟩ rfl rfl rfl ya rfl Ex mwd (λξ w ω bE=>bE.dR (by rw[ω];exact δ.aW)) (λh0 fT ea=>.inl ?_);have xT:=ea.view g8 gh pf;have e3:=ea.jE.np;rw[b7] at e3;unfold iv;rw[kA];refine V.b6 (γ _ _ _) ?_;refine W.part (A:=[]) Ρ [4] [] rfl λΕ ζ=>?_;(try simp);(repeat (rw[Ο];simp[]));(try simp[]);apply ζ;refine W.bJ ?_;refine W.inBlock ?_;refine W.forget (c8 m (mwd fT) aw st it τ) (by simp[c8]) (.stop ?_);exact Β h0 fT aw st it τ R ea.spec e3 cF k2 Ey
 ·have pY:=ν.view φ ξ pf
  have iW:=ν.jE.np;rw[b7] at iW;obtain⟨Χ,ak,aY,cy⟩:=Ot iW ς hv;by_cases AF:ξ.ck=0/\ξ.sv=0
  ·refine⟨{gh with ck:=1,wk:=if aw then 0 else gh.wk},.ch k .own .work,?_,rfl,⟨rfl,rfl,rfl⟩,by rw[b7];exact .acq R R,λh0 eD=>?_⟩
   ·simp[ph,pg,ak,aY,cy,AF.1,AF.2]
   ·rw[g6];rw[AF.1,AF.2] at fa;refine V.b6 (γ _ _ _) ?_;refine W.bJ ?_
    repeat (first|apply a3|apply wb|apply a4|apply wd)
    refine ai rfl ?_;(repeat (first|apply a3|apply wb|apply a4|apply wd|refine ai rfl ?_|refine aa rfl ?_|(refine bs λΕ ζ=>?_;simp;(repeat (rw[Ο];simp[fa]));apply ζ)));refine W.exit rfl (.stop ?_);exact fin _ _ rfl
  ·have Φ:ξ.ck=1\/ξ.sv=1:=by omega
   refine⟨{gh with nw:=gh.nw+1,wk:=if aw then 0 else gh.wk,sv:=if(st&&decide (ξ.ck=1)) then 1 else gh.sv},.ch k .q .work,?_,rfl,⟨rfl,rfl,rfl⟩,by rw[b7];exact .queue (st&&decide (ξ.ck=1)) R (λh=>by simp at h;exact⟨cF h.1,R⟩),λh0 eD=>?_⟩
   ·simp only[ph,if_neg AF,pg,Χ,ak,aY,cy];simp
   ·rw[g6];refine V.b6 (γ _ _ _) ?_;refine W.bJ ?_
    repeat (first|apply a3|apply wb|apply a4|apply wd)
    refine ai rfl ?_;refine W.forget (c8 m (mwd ξ) aw st it τ) (by simp[c8]) (.stop ?_);exact tail h0 _ R R
theorem Yr (δ:jF x s m sp) {φ:Nat} {aw st:Bool} {it τ:Int} {gS:Nat} {lx:aS} (k2:0<=it) (Ey:it<4)
  (Β:∀(cu:Nat) (h1:aS),cu<=gS->h1.toSpec=sp->sX h1 (.ch k (.act aw) .work)->j6 Q mn x c rest S H s m (.ch k (.act aw) .work) (some (cu,h1)) 1 lu (c8 m (mwd h1) aw st (it+1) τ)) :
  j6 Q mn x c rest S H s m (.ch k (.act aw) .work) (some (gS,lx)) 1 (.code (dV [0,0,1,0,1,0] m3)::.code (dV [0,0,1,0,1,1] m3)::.code qv::.inBlock 1::lu) [(0,.z (ptr m 0)),(2,.z (.int .i64 τ)),(3,.z (.bool st)),(4,.z (.bool aw)),(5,.z (.int .i64 it))]:=by
 letI:bn:=e1;have γ:=δ.seq;have hw:IntKind.i64.wrap (it+1)=it+1:=by simp only[IntKind.wrap_i64];omega
 refine V.b6 (γ _ _ _) ?_;unfold m3 qu
 repeat first|apply a3|apply wb|apply a4|apply wd
 refine W.cr (.stop ?_);refine V.Es (γ _ _ _) (vs:=[]) ⟨⟨rfl,rfl,by simp[Frame.enter],rfl⟩,Ye,⟨_,rfl⟩,rfl,rfl,rfl⟩ ?_;refine V.b6 (γ _ _ _) ?_;refine W.bJ ?_
 repeat (first|apply a3|apply wb|apply a4|apply wd)
 refine bs λΕ ζ=>?_;(try simp);(repeat (rw[Ο];simp[hw]));(try simp[hw]);apply ζ
 repeat (first|apply a3|apply wb|apply a4|apply wd)
 refine W.cr ?_;refine fw [0,1,2] [3,4] ?_;refine W.stop ?_;refine V.x' (γ _ _ _).here (sp:=sp) δ.spec (by rw[b7];exact id) ⟨rfl,rfl,by simp[Frame.enter],rfl⟩ rfl rfl rfl ya rfl Ex mwd (λξ w ω bE=>bE.dR (by rw[ω];exact δ.aW)) (λh0 fT ea=>.inl ?_);have xT:=ea.view gS lx pf;have e3:=ea.jE.np;rw[b7] at e3;unfold iv;rw[kA];refine V.b6 (γ _ _ _) ?_;refine W.part (A:=[]) Ρ [4] [] rfl λΕ ζ=>?_;(try simp);(repeat (rw[Ο];simp[]));(try simp[]);apply ζ;refine W.bJ ?_;refine W.exit rfl ?_;refine W.forget (c8 m (mwd fT) aw st (it+1) τ) (by simp[c8]) (.stop ?_);exact Β h0 fT R ea.spec e3
theorem Ys (δ:jF x s m sp) (Κ:sZ Q mn x c rest S H s k sp):∀(N φ:Nat) (ξ:aS) (aw st:Bool) (it τ:Int),φ*8+(4-it).toNat<N->ξ.toSpec=sp->sX ξ (.ch k (.act aw) .work)->(st=true->aw=true)->0<=it->it<=4->
  j6 Q mn x c rest S H s m (.ch k (.act aw) .work) (some (φ,ξ)) 1 (.code m3::lu) (c8 m (mwd ξ) aw st it τ):=by
 letI:bn:=e1;have γ:=δ.seq;intro N
 induction N with
 | zero=>intro φ ξ aw st it τ h;omega
 | succ N AG=>
  intro φ ξ aw st it τ cm ω ς cF k2 Ey;have tD:=On ς;have gP:=AE δ ω;have ο:=ς.ck;have hw:=ς.wk;have qk:=ς.sv;have Ζ:=ς.nw;have fa:=Ig ξ.ck R ξ.wk R ξ.sv R ξ.nw R;have Γ:=Eu ξ.ck R ξ.wk R ξ.sv R ξ.nw R;have h8:=X7 ξ.ck R ξ.wk R ξ.sv R ξ.nw R;have me:=Ij ξ.ck R ξ.wk R ξ.sv R ξ.nw R;rw[<-pg] at fa Γ me h8;have back:∀(cu:Nat) (h1:aS) (nO yc:Bool) (uA eW:Int),cu*8+(4-uA).toNat<N->h1.toSpec=sp->sX h1 (.ch k (.act nO) .work)->(yc=true->nO=true)->0<=uA->uA<=4->
    j6 Q mn x c rest S H s m (.ch k (.act nO) .work) (some (cu,h1)) 1 lu (c8 m (mwd h1) nO yc uA eW):=λcu h1 nO yc uA eW J U μ Θ av ba=>by
   have:=AG cu h1 nO yc uA eW J U μ Θ av ba;refine V.fR (γ _ _ _) rfl ?_;exact W.inLoop (.stop this)
  have eR:AD Q mn x c rest S H s m k sp φ:=λcu h1 nO yc uA eW J U μ Θ av ba=>back cu h1 nO yc uA eW R U μ Θ av ba
  have new:j6 Q mn x c rest S H s m (.ch k (.act aw) .work) (some (φ,ξ)) 1 (.code qv::.inBlock 1::lu) (c8 m (mwd ξ) aw st it τ):=by
   rw[pg];exact Yl δ R R R R tD cF (by rw[<-pg];exact Yq δ Κ eR ω ς cF k2 Ey)
  have AH:∀(gS:Nat) (lx:aS) (nO:Bool),it<4->(gS<=φ)->(st=true->nO=true)->j6 Q mn x c rest S H s m (.ch k (.act nO) .work) (some (gS,lx)) 1 (.code (dV [0,0,1,0,1,0] m3)::.code (dV [0,0,1,0,1,1] m3)::.code qv::.inBlock 1::lu) [(0,.z (ptr m 0)),(2,.z (.int .i64 τ)),(3,.z (.bool st)),(4,.z (.bool nO)),(5,.z (.int .i64 it))]:=λgS lx nO J U μ=>
   Yr δ (φ:=φ) k2 J λcu h1 Χ ak aY=>back cu h1 nO st (it+1) τ R ak aY μ R R
  refine V.b6 (γ _ _ _) ?_;unfold m3 qu
  repeat first|apply a3|apply wb|apply a4|apply wd
  by_cases b0:ξ.ck=1/\ξ.sv=0
  ·rw[b0.1,b0.2] at fa;refine W.cr ?_;refine W.part (A:=[]) Ρ [0,1,2,3,4] [5,6] rfl λΕ ζ=>?_;(try simp);(repeat (rw[Ο];simp[c8,fa]));(try simp[c8,fa]);apply ζ;refine W.stop ?_;refine V.canSpin (γ _ _ _) ⟨⟨rfl,rfl,by simp[Frame.enter],rfl⟩,Yd,⟨_,rfl⟩,rfl,rfl,rfl⟩ λy Ι=>?_;refine V.b6 (γ _ _ _) ?_;refine W.part (A:=[]) Ρ [6] [] rfl λΕ ζ=>?_;(try simp);(repeat (rw[Ο];simp[c8]));(try simp[c8]);apply ζ;refine W.bJ ?_;cases y with
   | false=>
    refine aa rfl ?_
    first|apply a3|apply wb|apply a4|apply wd
    refine W.forget (c8 m (mwd ξ) aw st it τ) (by simp[c8]) (.stop ?_);exact new
   | true=>
    have Θ:=Ι rfl;refine ai rfl ?_
    repeat first|apply a3|apply wb|apply a4|apply wd
    cases aw with
    | true=>
     (repeat (first|apply a3|apply wb|apply a4|apply wd|refine ai rfl ?_|refine aa rfl ?_|(refine bs λΕ ζ=>?_;simp;(repeat (rw[Ο];simp[c8]));apply ζ)));refine W.forget [(0,.z (ptr m 0)),(2,.z (.int .i64 τ)),(3,.z (.bool st)),(4,.z (.bool true)),(5,.z (.int .i64 it))] η (.stop ?_);exact AH φ ξ true Θ (Nat.le_refl _) (λ_=>rfl)
    | false=>
     by_cases Ez:ξ.wk=0
     ·by_cases q5:ξ.nw=0
      ·rw[Ez] at Γ;rw[q5] at me;(repeat (first|apply a3|apply wb|apply a4|apply wd|refine ai rfl ?_|refine aa rfl ?_|(refine bs λΕ ζ=>?_;simp;(repeat (rw[Ο];simp[c8,Γ,me]));apply ζ)));refine W.forget [(0,.z (ptr m 0)),(2,.z (.int .i64 τ)),(3,.z (.bool st)),(4,.z (.bool false)),(5,.z (.int .i64 it))] η (.stop ?_);exact AH φ ξ false Θ (Nat.le_refl _) cF
      ·rw[Ez] at Γ;have Ou:((ξ.nw:Int) != 0)=true:=by simp;omega
       refine W.cr ?_;refine W.part (A:=[]) Ρ [0,1,2,3,4,5,6,7,8,9,10,11,12,13,14,15,16,17,18] [19,20] rfl λΕ ζ=>?_;(try simp);(repeat (rw[Ο];simp[c8,Γ,me,h8,q5,Ou]));(try simp[c8,Γ,me,h8,q5,Ou]);apply ζ;refine W.stop ?_;refine V.Eo (γ _ _ _).here (Nat.succ_pos _) (sp:=sp) δ.spec (by rw[b7];exact id) δ.aW ⟨⟨rfl,rfl,by simp[Frame.enter],rfl⟩,Ew,⟨_,rfl⟩,rfl,rfl,rfl⟩ (λg8 gh ν hv=>.inl ?_) (λg8 gh ν hv=>?_)
       ·have pY:=ν.view φ ξ pf;unfold iv;rw[kA];refine V.b6 (γ _ _ _) ?_;refine W.part (A:=[]) Ρ [20] [] rfl λΕ ζ=>?_;(try simp);(repeat (rw[Ο];simp[c8]));(try simp[c8]);apply ζ;refine W.bJ ?_;refine aa rfl ?_
        repeat (first|apply a3|apply wb|apply a4|apply wd)
        refine W.forget [(0,.z (ptr m 0)),(2,.z (.int .i64 τ)),(3,.z (.bool st)),(4,.z (.bool false)),(5,.z (.int .i64 it))] (by simp[c8]) (.stop ?_);exact AH g8 gh false Θ R cF
       ·have pY:=ν.view φ ξ pf
        have iW:=ν.jE.np;rw[b7] at iW;obtain⟨Χ,ak,aY,cy⟩:=Ot iW ς hv;refine⟨{gh with wk:=1},.ch k (.act true) .work,?_,rfl,⟨rfl,rfl,rfl⟩,by rw[b7];exact .Rv R R R R,λh0 eD=>?_⟩
        ·simp[pg,Χ,aY,cy]
        ·rw[g6];refine V.b6 (γ _ _ _) ?_;refine W.part (A:=[]) Ρ [20] [] rfl λΕ ζ=>?_;(try simp);(repeat (rw[Ο];simp[c8]));(try simp[c8]);apply ζ;refine W.bJ ?_;refine ai rfl ?_;refine bs λΕ ζ=>?_;(try simp);(repeat (rw[Ο];simp[c8]));(try simp[c8]);apply ζ
         repeat (first|apply a3|apply wb|apply a4|apply wd)
         refine W.forget [(0,.z (ptr m 0)),(2,.z (.int .i64 τ)),(3,.z (.bool st)),(4,.z (.bool true)),(5,.z (.int .i64 it))] (by simp[c8]) (.stop ?_);exact AH h0 _ true Θ R (λ_=>rfl)
     ·have h2:ξ.wk=1:=by omega
      rw[h2] at Γ;(repeat (first|apply a3|apply wb|apply a4|apply wd|refine ai rfl ?_|refine aa rfl ?_|(refine bs λΕ ζ=>?_;simp;(repeat (rw[Ο];simp[c8,Γ]));apply ζ)));refine W.forget [(0,.z (ptr m 0)),(2,.z (.int .i64 τ)),(3,.z (.bool st)),(4,.z (.bool false)),(5,.z (.int .i64 it))] η (.stop ?_);exact AH φ ξ false Θ (Nat.le_refl _) cF
  ·have av:¬eY .i32 (mwd ξ) 5=1:=by rw[fa];omega
   refine bs λΕ ζ=>?_;(try simp);(repeat (rw[Ο];simp[c8,av]));(try simp[c8,av]);apply ζ;refine aa rfl ?_
   first|apply a3|apply wb|apply a4|apply wd
   refine W.forget (c8 m (mwd ξ) aw st it τ) (by simp[c8]) (.stop ?_);exact new
theorem Yt (δ:jF x s m sp):Oj Q mn x s m k sp:=by
 intro c rest S B σ H v Α Κ;letI:bn:=e1;have γ:=δ.seq;have head:=λφ ξ aw st it τ U μ Θ av ba=>Ys δ Κ (φ*8+(4-it).toNat+1) φ ξ aw st it τ (Nat.lt_succ_self _) U μ Θ av ba;refine V.qo (z:=one _) (vs:=[ptr m 0]) Tryz.func213 rfl Α (by simp[Tryz.ntmps213]) ?_ _ rfl;refine V.b6 (γ _ _ _) ?_;(repeat (first|apply a3|apply wb|apply a4|apply wd|refine ai rfl ?_|refine aa rfl ?_|(refine bs λΕ ζ=>?_;simp;(repeat (rw[Ο];simp[]));apply ζ)));refine W.cr ?_;refine fw [0,1,2] [3,4] ?_;refine W.stop ?_;refine V.x' (γ _ _ _).here (sp:=sp) δ.spec (by rw[b7];exact id) ⟨rfl,rfl,by simp[Frame.enter],rfl⟩ rfl rfl rfl ya rfl Ex mwd (λξ w ω bE=>bE.dR (by rw[ω];exact δ.aW)) (λh0 fT ea=>.inl ?_);have e3:=ea.jE.np;rw[b7] at e3;unfold iv;rw[kA];refine V.b6 (γ _ _ _) ?_;refine W.part (A:=[]) Ρ [4] [] rfl λΕ ζ=>?_;(try simp);(repeat (rw[Ο];simp[]));(try simp[]);apply ζ;refine W.bJ ?_
 repeat (first|apply a3|apply wb|apply a4|apply wd)
 refine W.loop ?_;refine W.forget (c8 m (mwd fT) false false 0 0) (by simp[c8]) (.stop ?_);exact head h0 fT false false 0 0 ea.spec e3 (λh=>by cases h) R R
theorem Yu (δ:jF x s m sp) (Α:Holds S B σ H) (Κ:sZ Q mn x c rest S H s k sp):cx Tryz.prog Q mn (bx x s (.ch k .idle .work) v 0) (Frame.enter Tryz.prog 144 #[ptr m 0] .normal) (c::rest) H:=by
 letI:bn:=e1;have γ:=δ.seq;refine V.qo (z:=one _) (vs:=[ptr m 0]) Tryz.func144 rfl Α (by simp[Tryz.ntmps144]) ?_ _ rfl;refine V.b6 (γ _ _ _) ?_
 repeat first|apply a3|apply wb|apply a4|apply wd
 refine W.cr ?_;refine fw [0,1,2] [3] ?_;refine W.stop ?_;refine V.call (γ _ _ _) ⟨rfl,rfl,by simp[Frame.enter],rfl⟩ rfl rfl rfl ⟨_,Tryz.func175,rfl,rfl⟩ λbN bT H1 t1 o7 κ ψ hv=>?_;obtain rfl:=m1 (l:=[ptr m 0]) hv;obtain rfl:bT=[]:=dG.1 ψ.holds.len;rintro y rfl;refine Yj δ ψ.holds (Yt δ) λc9 bR L E lr jx cQ ib wm=>?_;rw[iF rfl];refine cx.leave0 (γ _ _ _) rfl rfl rfl rfl Tryz.func144 rfl ?_;exact Κ c9 bR L E (κ.ext.trans lr) jx cQ ib wm
end
noncomputable def Ov:Code:=Tryz.f215.body.getD .skip
noncomputable def Ip:Code:=dV [1,1,0,1,0,0] Ov
noncomputable def Ow:List Item:=[.inLoop Ip,.inBlock 0]
theorem Yv:∀n<8,0<n->q1 .i32 (IntKind.i32.wrap (g7 0 0 0 n-8)) 2=g7 0 1 0 (n-1):=by decide +kernel
theorem Yw:∀b<2,∀c<2,∀n<8,eY .i32 (IntKind.i32.wrap (g7 0 b c n+1)) 1=1:=by decide +kernel
abbrev fj:aJ:=λ_ _=>none
theorem AI {S aE:aJ} {B B':aV} {σ σ':List Row} {env:Ω} {t:Array Value} (he:∀p∈env,∃v,p.2=θ.z v) (h:du S B σ env t):du aE B' σ' env t:=by
 intro i;have key:∀(env:Ω),(∀p∈env,∃v,p.2=θ.z v)->(∃v,a9 env i=.z v)\/a9 env i=.cH:=by
  intro env
  induction env with
  | nil=>exact λ_=>.inr rfl
  | cons p l Β=>
   intro h;obtain⟨j,a⟩:=p;simp only[a9];split
   ·exact .inl (h (j,a) η)
   ·exact Β λq Φ=>h q (by simp[Φ])
 have hi:=h i;rcases key env he with⟨v,e⟩|e
 ·rw[e] at hi ⊢;generalize t.getD i undef=u at hi;cases hi;exact .z _
 ·rw[e];exact .cH _
theorem yd (H:χ):Holds fj [] [] H:=⟨λb o v h=>(by cases h),rfl,λid r bo h=>(by simp at h),λi j ez cg b gU gV _ h=>(by simp at h),λid r b N h=>(by simp at h)⟩
theorem fN.none {m nt:Nat} {S:aJ} {B:aV} {H H':χ} {env:Ω} {t:Array Value} (h:fN m nt S B H [] env t) (he:∀p∈env,∃v,p.2=θ.z v):fN 0 nt fj [] H' [] env t:=⟨yd H',AI he h.cA,h.size,Nat.le_refl _⟩
section
variable {Q:Value->Prop} {mn:Bool} {x:aZ} {c:Frame} {rest:List Frame} {S:aJ} {B:aV} {σ:List Row} {H:χ} {s m k:Nat} {sp:Spec} {v:Option (Nat×aS)} {t:Tok}
abbrev Iq (Q:Value->Prop) (mn:Bool) (x:aZ) (c:Frame) (rest:List Frame) (H:χ) (s m:Nat) (w:Int) (t:Tok) (v:Option (Nat×aS)) (K:List Item) (env:Ω):Prop:=
 V Tryz.prog Q mn (one (bx x s t v 1)) (Frame.enter Tryz.prog 215 #[ptr m 0,.int .i32 w] .normal) (c::rest) 43 ⟨fj,[],H,[],0⟩ K env []
def AJ (Q:Value->Prop) (mn:Bool) (x:aZ) (c:Frame) (rest:List Frame) (H:χ) (s k d:Nat):Prop:=
 ∀(v:Option (Nat×aS)) (c9:aJ) (bR:χ),Ext fj [] H c9 [] bR->cx Tryz.prog Q mn (bx x s (.ch k .done .work) v d) (c.finish (.tuple #[])) rest bR
theorem Ir (δ:jF x s m sp) (Κ:AJ Q mn x c rest H s k 1) {w:Int} {K:List Item} {env:Ω} (e:t=.ch k .done .work):Iq Q mn x c rest H s m w t v (.code .ret::K) env:=by
 letI:bn:=e1;have γ:=δ.seq;subst e;refine V.Ia (γ _ _ _) rfl rfl rfl rfl Tryz.func215 rfl λbN bT H1 κ Α=>?_;obtain rfl:bT=[]:=dG.1 Α.len;rintro y rfl;exact Κ v bN H1 κ.ext
def Ox (k:Nat) (ξ:aS) (t:Tok):Prop:=((ξ.nw=0\/ξ.ck=1\/ξ.wk=1\/ξ.sv=1)/\t=.ch k .done .work)\/(0<ξ.nw/\ξ.ck=0/\ξ.wk=0/\ξ.sv=0/\t=.ch k .uc .work)
theorem Oy (δ:jF x s m sp) (Κ:AJ Q mn x c rest H s k 1) {w:Int}:∀(N φ:Nat) (ξ:aS) (t:Tok),φ<N->ξ.ck<=1->ξ.wk<=1->ξ.sv<=1->ξ.nw<7->Ox k ξ t->
  Iq Q mn x c rest H s m w t (some (φ,ξ)) (.code Ip::Ow) [(0,.z (ptr m 0)),(4,.z (.int .i32 (mwd ξ)))]:=by
 letI:bn:=e1;have γ:=δ.seq;intro N
 induction N with
 | zero=>intro φ ξ t h;omega
 | succ N AG=>
  intro φ ξ t cm ο hw qk Ζ Ν;have qM:=X4 ξ.ck R ξ.wk R ξ.sv R ξ.nw R;have me:=Ij ξ.ck R ξ.wk R ξ.sv R ξ.nw R;rw[<-pg] at qM me;have back:∀(cu:Nat) (h1:aS) (t':Tok),cu<N->h1.ck<=1->h1.wk<=1->h1.sv<=1->h1.nw<7->Ox k h1 t'->Iq Q mn x c rest H s m w t' (some (cu,h1)) Ow [(0,.z (ptr m 0)),(4,.z (.int .i32 (mwd h1)))]:=λcu h1 t' J U μ Θ av ba=>by
   have:=AG cu h1 t' J U μ Θ av ba;refine V.fR (γ _ _ _) rfl ?_;exact W.inLoop (.stop this)
  refine V.b6 (γ _ _ _) ?_;unfold Ip Ov
  repeat first|apply a3|apply wb|apply a4|apply wd
  rcases Ν with⟨Ν,rfl⟩|⟨J,U,μ,Θ,rfl⟩
  ·by_cases Τ:ξ.nw=0
   ·rw[Τ] at me;(repeat (first|apply a3|apply wb|apply a4|apply wd|refine ai rfl ?_|refine aa rfl ?_|(refine bs λΕ ζ=>?_;simp;(repeat (rw[Ο];simp[me]));apply ζ)));exact .stop (Ir δ Κ rfl)
   ·have gZ:¬eY .i32 (mwd ξ) 7=0:=by rw[qM];omega
    have FP:(eY .i32 (mwd ξ) 7 != 0)=true:=by simpa using gZ
    (repeat (first|apply a3|apply wb|apply a4|apply wd|refine ai rfl ?_|refine aa rfl ?_|(refine bs λΕ ζ=>?_;simp;(repeat (rw[Ο];simp[me,Τ,gZ,FP]));apply ζ)));exact .stop (Ir δ Κ rfl)
  ·have Τ:¬ξ.nw=0:=by omega
   have nn:¬(ξ.nw:Int)=0:=R
   have EA:mwd ξ=g7 0 0 0 ξ.nw:=by rw[pg,U,μ,Θ]
   have yW:=Yv ξ.nw R J;rw[<-EA] at yW;rw[U,μ,Θ] at qM;(repeat (first|apply a3|apply wb|apply a4|apply wd|refine ai rfl ?_|refine aa rfl ?_|(refine bs λΕ ζ=>?_;simp;(repeat (rw[Ο];simp[me,Τ,nn,qM]));apply ζ)));refine W.cr ?_;refine W.part (A:=[]) Ρ [0,1,2,3,4] [5] rfl λΕ ζ=>?_;(try simp);(repeat (rw[Ο];simp[yW]));(try simp[yW]);apply ζ;refine W.stop ?_;refine V.Eo (γ _ _ _).here (Nat.succ_pos _) (sp:=sp) δ.spec (by rw[b7];exact id) δ.aW ⟨⟨rfl,rfl,by simp[Frame.enter],rfl⟩,Ew,⟨_,rfl⟩,rfl,rfl,rfl⟩ (λg8 gh ν hv=>.inl ?_) (λg8 gh ν hv=>?_)
   ·have pY:=ν.view φ ξ pf
    have av:g8<φ:=by
     rcases Nat.lt_or_ge g8 φ with h|h
     ·exact h
     ·exact absurd (by rw[pY.2 R]) hv
    unfold iv;rw[kA];refine V.b6 (γ _ _ _) ?_;refine W.bJ ?_;refine aa rfl ?_
    repeat first|apply a3|apply wb|apply a4|apply wd
    refine W.cr ?_;refine fw [0,1,2] [3,4] ?_;refine W.stop ?_;refine V.x' (γ _ _ _).here (sp:=sp) δ.spec (by rw[b7];exact id) ⟨rfl,rfl,by simp[Frame.enter],rfl⟩ rfl rfl rfl ya rfl (by kernel_rfl) mwd (λξ w ω bE=>bE.dR (by rw[ω];exact δ.aW)) (λh0 fT ea=>?_);have xT:=ea.view g8 gh pf;have e3:=ea.jE.np;have gP:=AE δ ea.spec;have Χ:=e3.ck;have ak:=e3.wk;have aY:=e3.sv;have cy:=e3.nw;by_cases tA:fT.nw=0\/fT.ck=1\/fT.wk=1\/fT.sv=1
    ·refine .inr ⟨.ch k .done .work,by rw[b7];exact .RA tA,λyb eD=>?_⟩;rw[g6];refine V.b6 (γ _ _ _) ?_;refine W.part (A:=[]) Ρ [4] [] rfl λΕ ζ=>?_;(try simp);(repeat (rw[Ο];simp[]));(try simp[]);apply ζ;refine W.bJ ?_
     repeat (first|apply a3|apply wb|apply a4|apply wd)
     refine W.forget [(0,.z (ptr m 0)),(4,.z (.int .i32 (mwd fT)))] η (.stop ?_);exact back yb fT _ R Χ ak aY R (.inl ⟨tA,rfl⟩)
    ·refine .inl ?_;unfold iv;rw[kA];refine V.b6 (γ _ _ _) ?_;refine W.part (A:=[]) Ρ [4] [] rfl λΕ ζ=>?_;(try simp);(repeat (rw[Ο];simp[]));(try simp[]);apply ζ;refine W.bJ ?_
     repeat (first|apply a3|apply wb|apply a4|apply wd)
     refine W.forget [(0,.z (ptr m 0)),(4,.z (.int .i32 (mwd fT)))] η (.stop ?_);exact back h0 fT _ R Χ ak aY R (.inr ⟨R,R,R,R,rfl⟩)
   ·have iW:=ν.jE.np
    have gP:=AE δ ν.spec
    have f1:=iW.ck;have f2:=iW.wk;have f3:=iW.sv;have f4:=iW.nw
    have f5:gh.ck=0/\gh.wk=0/\gh.sv=0/\gh.nw=ξ.nw:=by
     rw[EA] at hv;simp only[mwd,g7] at hv;omega
    refine⟨{gh with nw:=gh.nw-1,wk:=1},.ch k .us .work,?_,rfl,⟨rfl,rfl,rfl⟩,by rw[b7];exact .Rz R R R R,λh0 eD=>?_⟩
    ·simp[pg,f5]
    ·rw[g6];refine V.b6 (γ _ _ _) ?_;refine W.bJ ?_;refine ai rfl ?_
     repeat first|apply a3|apply wb|apply a4|apply wd
     refine W.cr ?_;refine fw [0,1,2] [3] ?_;refine W.stop ?_;refine V.N6 (γ _ _ _).here (sp:=sp) δ.spec (by rw[b7];exact id) δ.aW (vs:=[ptr m 1,.bool false,.int .i64 2]) rfl ⟨⟨rfl,rfl,by simp[Frame.enter],rfl⟩,Og,⟨_,rfl⟩,rfl,rfl,rfl⟩ (λyb dB rK=>?_);have iX:=rK.jE.np;refine⟨by have:=iX.dd;omega,{dB with dd:=dB.dd+1},.ch k .done .work,rfl,rfl,⟨rfl,rfl,rfl⟩,by rw[b7];exact .post,λAK iΕ=>?_⟩;rw[g6];refine V.b6 (γ _ _ _) ?_;refine W.bJ (.stop ?_);exact Ir δ Κ rfl
theorem Yx (δ:jF x s m sp) (Κ:AJ Q mn x c rest H s k 1) {ξ:aS} {φ:Nat} (ω:ξ.toSpec=sp) (EB:ξ.ck=0) (Ar:ξ.wk<=1) (nN:ξ.sv<=1) (Oz:ξ.nw<7)
  (Ν:(ξ.sv=0/\(ξ.nw=0\/ξ.wk=1)/\t=.ch k .done .work)\/(ξ.sv=0/\0<ξ.nw/\ξ.wk=0/\t=.ch k .uc .work)\/(ξ.sv=1/\t=.ch k .us .work)) :
  cx Tryz.prog Q mn (bx x s t (some (φ,ξ)) 1) (Frame.enter Tryz.prog 215 #[ptr m 0,.int .i32 (mwd ξ)] .normal) (c::rest) H:=by
 letI:bn:=e1;have γ:=δ.seq;have dy:=Yw ξ.wk R ξ.sv R ξ.nw R;have cL:=Ih 0 R ξ.wk R ξ.sv R ξ.nw R;have EA:mwd ξ=g7 0 ξ.wk ξ.sv ξ.nw:=by rw[pg,EB]
 rw[<-EA] at dy cL;refine V.qo (z:=one _) (vs:=[ptr m 0,.int .i32 (mwd ξ)]) (S:=fj) Tryz.func215 rfl (yd H) (by simp[Tryz.ntmps215]) ?_ _ rfl;refine V.b6 (γ _ _ _) ?_;rcases Ν with⟨J,U,rfl⟩|⟨J,U,μ,rfl⟩|⟨J,rfl⟩
 ·rw[J] at cL;(repeat (first|apply a3|apply wb|apply a4|apply wd|refine ai rfl ?_|refine aa rfl ?_|(refine bs λΕ ζ=>?_;simp;(repeat (rw[Ο];simp[dy,cL]));apply ζ)));refine W.loop ?_;refine W.forget [(0,.z (ptr m 0)),(4,.z (.int .i32 (mwd ξ)))] η (.stop ?_);exact Oy δ Κ (φ+1) φ ξ _ (Nat.lt_succ_self _) R Ar nN Oz (.inl ⟨U.imp id λh=>.inr (.inl h),rfl⟩)
 ·rw[J] at cL;(repeat (first|apply a3|apply wb|apply a4|apply wd|refine ai rfl ?_|refine aa rfl ?_|(refine bs λΕ ζ=>?_;simp;(repeat (rw[Ο];simp[dy,cL]));apply ζ)));refine W.loop ?_;refine W.forget [(0,.z (ptr m 0)),(4,.z (.int .i32 (mwd ξ)))] η (.stop ?_);exact Oy δ Κ (φ+1) φ ξ _ (Nat.lt_succ_self _) R Ar nN Oz (.inr ⟨U,EB,μ,J,rfl⟩)
 ·rw[J] at cL;(repeat (first|apply a3|apply wb|apply a4|apply wd|refine ai rfl ?_|refine aa rfl ?_|(refine bs λΕ ζ=>?_;simp;(repeat (rw[Ο];simp[dy,cL]));apply ζ)));refine W.cr ?_;refine fw [0,1,2] [3] ?_;refine W.stop ?_;refine V.N6 (γ _ _ _).here (sp:=sp) δ.spec (by rw[b7];exact id) δ.aW (vs:=[ptr m 1,.bool true,.int .i64 2]) rfl ⟨⟨rfl,rfl,by simp[Frame.enter],rfl⟩,Og,⟨_,rfl⟩,rfl,rfl,rfl⟩ (λg8 gh ν=>?_);have iW:=ν.jE.np;refine⟨by have:=iW.dd;omega,{gh with dd:=gh.dd+1},.ch k .done .work,rfl,rfl,⟨rfl,rfl,rfl⟩,by rw[b7];exact .post,λh0 eD=>?_⟩;rw[g6];refine V.b6 (γ _ _ _) ?_;refine W.bJ (.stop ?_);refine V.Er (γ _ _ _) rfl rfl rfl rfl Tryz.func215 rfl λbN bT H1 κ Α=>?_;obtain rfl:bT=[]:=dG.1 Α.len;rintro y rfl;exact Κ _ bN H1 κ.ext
end
noncomputable def AL:Code:=Tryz.f176.body.getD .skip
theorem Yy:(Tryz.prog.funcs[176]?).any (·.norace)=true:=by kernel_rfl
section
variable {Q:Value->Prop} {mn:Bool} {x:aZ} {c:Frame} {rest:List Frame} {S:aJ} {B:aV} {σ:List Row} {H:χ} {s m k:Nat} {sp:Spec} {v:Option (Nat×aS)} {t:Tok}
abbrev OA (Q:Value->Prop) (mn:Bool) (x:aZ) (c:Frame) (rest:List Frame) (H:χ) (s m:Nat) (t:Tok) (v:Option (Nat×aS)) (d:Nat) (K:List Item) (env:Ω):Prop:=
 V Tryz.prog Q mn (one (bx x s t v d)) (Frame.enter Tryz.prog 176 #[ptr m 0] .normal) (c::rest) 21 ⟨fj,[],H,[],0⟩ K env []
theorem OB {aE:aJ} {H H':χ} (h:Ext fj [] H aE [] H'):Ext fj [] H fj [] H':=
 ⟨λb o v h=>(by cases h),λb hb Υ=>h.fV b hb Υ,λb hb=>h.blocks b hb,λb o v h=>(by cases h),h.grow⟩
theorem OC (δ:jF x s m sp) (Κ:AJ Q mn x c rest H s k 0) {env:Ω}:OA Q mn x c rest H s m (.ch k .done .work) v 1 [.code (dV [1,1,1] AL)] env:=by
 letI:bn:=e1;have γ:=δ.seq;refine V.b6 (γ _ _ _) ?_;unfold AL;refine W.cr (.stop ?_);refine V.enable (γ _ _ _).here (Nat.succ_pos _) ⟨⟨rfl,rfl,by simp[Frame.enter],rfl⟩,uw,⟨_,rfl⟩,rfl,rfl,rfl⟩ ?_;rw[Ax];refine V.b6 (γ _ _ _) ?_;refine W.bJ (.stop ?_);refine V.Er (γ _ _ _) rfl rfl rfl rfl Tryz.func176 rfl λbN bT H1 κ Α=>?_;obtain rfl:bT=[]:=dG.1 Α.len;rintro y rfl;exact Κ _ bN H1 κ.ext
theorem Yz (δ:jF x s m sp) (Α:Holds S B σ H) {L:List Nat}
  (da:∀(aE:aJ) (H':χ),Ext S [] H aE [] H'->Holds aE [] [] H'->∃H1 E,Split H' H1 E/\sp.an (L++[k]) E/\AJ Q mn x c rest H1 s k 0) :
  cx Tryz.prog Q mn (bx x s (.ch k (.dr L) .work) v 0) (Frame.enter Tryz.prog 176 #[ptr m 0] .normal) (c::rest) H:=by
 letI:bn:=e1;have γ:=δ.seq;refine V.qo (z:=one _) (vs:=[ptr m 0]) Tryz.func176 rfl Α (by simp[Tryz.ntmps176]) ?_ _ rfl;refine V.b6 (γ _ _ _) ?_
 repeat first|apply a3|apply wb|apply a4|apply wd
 refine ai rfl ?_
 repeat first|apply a3|apply wb|apply a4|apply wd
 refine W.cr ?_;refine fw [0,1,2] [3] ?_;refine W.stop ?_;refine V.x' (γ _ _ _).here (sp:=sp) δ.spec (by rw[b7];exact id) ⟨rfl,rfl,by simp[Frame.enter],rfl⟩ rfl rfl rfl ya rfl Yy mwd (λξ w ω bE=>bE.dR (by rw[ω];exact δ.aW)) (λg8 gh rL=>.inl ?_);unfold iv;rw[kA];refine V.b6 (γ _ _ _) ?_;refine W.bJ ?_
 repeat first|apply a3|apply wb|apply a4|apply wd
 refine W.forget [(0,.z (ptr m 0))] η ?_;refine W.cr ?_;refine fw [0] [1,2] ?_;refine W.stop ?_;refine V.conv (γ _ _ _).here (sp:=sp) δ.spec (by rw[b7];exact id) ⟨rfl,rfl,by simp[Frame.enter],rfl⟩ rfl rfl rfl Ik uy Il rfl (λξ w ω bE=>⟨_,bE.dR (by rw[ω];exact δ.aW)⟩) (λφ ξ ν=>?_);unfold iv;rw[kA];refine V.Gc δ.rel rfl (sp:=sp) (L:=L) δ.spec δ.aW b7 ⟨⟨rfl,rfl,by simp[Frame.enter],rfl⟩,Oa,⟨_,rfl⟩,rfl,rfl,rfl⟩ λbN bT H1 t1 κ ψ=>?_;obtain rfl:bT=[]:=dG.1 ψ.holds.len;obtain⟨bR,E,Χ,ak,aY⟩:=da bN H1 κ.ext ψ.holds;refine⟨bR,E,Χ,ak,?_⟩;rw[g6];refine V.here (x:=one _) (S:=fj) (B:=[]) (σ:=[]) (m:=0) (nt:=21) ?_ (ψ.none η) _ rfl;refine V.b6 (γ _ _ _) ?_;refine W.bJ ?_
 repeat first|apply a3|apply wb|apply a4|apply wd
 refine W.cr (.stop ?_);refine V.disable (γ _ _ _).here ⟨⟨rfl,rfl,by simp[Frame.enter],rfl⟩,AA,⟨_,rfl⟩,rfl,rfl,rfl⟩ ?_;rw[Aw];refine V.b6 (γ _ _ _) ?_;refine W.bJ ?_
 repeat first|apply a3|apply wb|apply a4|apply wd
 refine W.cr ?_;refine fw [0,1,2] [3,4] ?_;refine W.stop ?_;refine V.N0 (γ _ _ _).here (Nat.succ_pos _) (sp:=sp) δ.spec (by rw[b7];exact id) δ.aW ⟨⟨rfl,rfl,by simp[Frame.enter],rfl⟩,Oc,⟨_,rfl⟩,rfl,rfl,rfl⟩ (λyb dB rK=>?_);have iX:=rK.jE.np;rw[b7] at iX;have EB:=iX.hold rfl;have gP:=AE δ rK.spec;have f1:=iX.wk;have f2:=iX.sv;have f3:=iX.nw;have AM:mwd {dB with ck:=0}=IntKind.i32.wrap (mwd dB+-1):=by simp only[mwd,IntKind.wrap_i32,EB];omega
 have go:∀(t:Tok) (cu:Nat),(dB.sv=0/\(dB.nw=0\/dB.wk=1)/\t=.ch k .done .work)\/(dB.sv=0/\0<dB.nw/\dB.wk=0/\t=.ch k .uc .work)\/(dB.sv=1/\t=.ch k .us .work)->
   OA Q mn x c rest bR s m t (some (cu,{dB with ck:=0})) 1 [.code (dV [1,1,0] AL),.code (dV [1,1,1] AL)] [(0,.z (ptr m 0)),(2,.z (.int .i32 (mwd {dB with ck:=0})))]:=λt cu Ν=>by
  refine V.b6 (γ _ _ _) ?_;unfold AL
  repeat first|apply a3|apply wb|apply a4|apply wd
  by_cases Τ:mwd {dB with ck:=0}=0
  ·(repeat (first|apply a3|apply wb|apply a4|apply wd|refine ai rfl ?_|refine aa rfl ?_|(refine bs λΕ ζ=>?_;simp;(repeat (rw[Ο];simp[Τ]));apply ζ)));have YA:t=.ch k .done .work:=by
    simp only[mwd] at Τ;rcases Ν with⟨_,_,h⟩|⟨_,h,_⟩|⟨h,_⟩
    ·exact h
    ·omega
    ·omega
   subst YA;exact .stop (OC δ aY)
  ·have nn:(mwd {dB with ck:=0} != 0)=true:=by simpa using Τ
   (repeat (first|apply a3|apply wb|apply a4|apply wd|refine ai rfl ?_|refine aa rfl ?_|(refine bs λΕ ζ=>?_;simp;(repeat (rw[Ο];simp[Τ,nn]));apply ζ)));refine W.cr ?_;refine fw [0,1] [2] ?_;refine W.stop ?_;refine V.call (γ _ _ _) ⟨rfl,rfl,by simp[Frame.enter],rfl⟩ rfl rfl rfl ⟨_,Tryz.func215,rfl,rfl⟩ λj2 o8 j3 t4 YB sO qe Is=>?_;obtain rfl:=m1 (l:=[ptr m 0,.int .i32 (mwd {dB with ck:=0})]) Is;obtain rfl:o8=[]:=dG.1 qe.holds.len;rintro y rfl;refine Yx δ (λiΖ iP hZ YC=>?_) (by exact rK.spec) rfl f1 f2 (by show dB.nw<7;omega) Ν;rw[iF rfl];have EC:Ext fj [] bR fj [] hZ:=(OB sO.ext).trans (OB YC);refine V.here (x:=one _) (S:=fj) (B:=[]) (σ:=[]) (m:=0) (nt:=21) ?_ ((qe.put (a:=ou) rfl (.z _)).none η) _ rfl;refine V.b6 (γ _ _ _) ?_;refine W.bJ (.stop ?_);exact OC δ λv6 It Iu ba=>aY v6 It Iu (EC.trans ba)
 by_cases nN:dB.sv=1
 ·refine⟨{dB with ck:=0},.ch k .us .work,AM,rfl,⟨rfl,rfl,rfl⟩,by rw[b7];exact .Ry nN,λAK _=>?_⟩;rw[g6];refine V.b6 (γ _ _ _) ?_;refine W.part (A:=[]) Ρ [4] [] rfl λΕ ζ=>?_;(try simp);(repeat (rw[Ο];simp[]));(try simp[]);apply ζ;refine W.bJ ?_
  first|apply a3|apply wb|apply a4|apply wd
  refine W.forget [(0,.z (ptr m 0)),(2,.z (.int .i32 (mwd {dB with ck:=0})))] η (.stop ?_);exact go _ AK (.inr (.inr ⟨nN,rfl⟩))
 ·have hz:dB.sv=0:=by omega
  have step:∀(t:Tok),(dB.sv=0/\(dB.nw=0\/dB.wk=1)/\t=.ch k .done .work)\/(dB.sv=0/\0<dB.nw/\dB.wk=0/\t=.ch k .uc .work)->Act dB (.ch k .fin .work) {dB with ck:=0} t->∃o' t',mwd o'=IntKind.i32.wrap (mwd dB+-1)/\o'.dd=dB.dd/\x9 dB o'/\Act dB (.ch k .fin .work) o' t'/\((dB.sv=0/\(dB.nw=0\/dB.wk=1)/\t'=.ch k .done .work)\/(dB.sv=0/\0<dB.nw/\dB.wk=0/\t'=.ch k .uc .work))/\o'={dB with ck:=0}:=λt J U=>⟨_,t,AM,rfl,⟨rfl,rfl,rfl⟩,U,J,rfl⟩;obtain⟨o',t',dK,dq,ga,tQ,tR,rfl⟩:∃o' t',mwd o'=IntKind.i32.wrap (mwd dB+-1)/\o'.dd=dB.dd/\x9 dB o'/\Act dB (.ch k .fin .work) o' t'/\((dB.sv=0/\(dB.nw=0\/dB.wk=1)/\t'=.ch k .done .work)\/(dB.sv=0/\0<dB.nw/\dB.wk=0/\t'=.ch k .uc .work))/\o'={dB with ck:=0}:=by
   by_cases Ζ:dB.nw=0\/dB.wk=1
   ·exact step _ (.inl ⟨hz,Ζ,rfl⟩) (.Rw hz Ζ)
   ·exact step _ (.inr ⟨hz,R,R,rfl⟩) (.Rx hz R R)
  refine⟨_,t',dK,dq,ga,by rw[b7];exact tQ,λAK _=>?_⟩;rw[g6];refine V.b6 (γ _ _ _) ?_;refine W.part (A:=[]) Ρ [4] [] rfl λΕ ζ=>?_;(try simp);(repeat (rw[Ο];simp[]));(try simp[]);apply ζ;refine W.bJ ?_
  first|apply a3|apply wb|apply a4|apply wd
  refine W.forget [(0,.z (ptr m 0)),(2,.z (.int .i32 (mwd {dB with ck:=0})))] η (.stop ?_);exact go _ AK (tR.imp id λh=>.inl h)
theorem cx.leaveD [bn] {P:Program} {Q:Value->Prop} {mn:Bool} {x:aZ} {c b:Frame} {rest:List Frame} {H:χ} {t:Array Value} {ops:Array Oper} {fn:Func} (γ:Seq (one x)) (hb:b.mode=.run) (cn:b.roundOf=none) (eR:b.defers=[]) (gY:b.kind=.deferred) (bM:P.funcs[b.fn]?=some fn) (e6:fn.results=#[])
  (pj:c.mode=.returning) (h:cx P Q mn x c rest H):cx P Q mn x (aA b t [.inRegion ops []]) (c::rest) H:=by
 refine aR.bJ (x:=one x) γ hb (.sf γ hb cn (.Gx γ rfl eR gY bM ?_)) x rfl;rw[results_none e6];refine π.pure' ?_;simp only[pj];intro y Ι;cases Ι;exact h
theorem YD (δ:jF x s m sp) (Α:Holds S B σ H) (pj:c.mode=.returning) {L:List Nat}
  (da:∀(aE:aJ) (H':χ),Ext S [] H aE [] H'->Holds aE [] [] H'->∃H1 E,Split H' H1 E/\sp.an (L++[k]) E/\∀(v:Option (Nat×aS)) (c9:aJ) (bR:χ),Ext fj [] H1 c9 [] bR->cx Tryz.prog Q mn (bx x s (.ch k .done .work) v 0) c rest bR) :
  cx Tryz.prog Q mn (bx x s (.ch k (.dr L) .work) v 0) (Frame.enter Tryz.prog 145 #[ptr m 0] .deferred) (c::rest) H:=by
 letI:bn:=e1;have γ:=δ.seq;rw[qc (body:=Tryz.f145.body.getD .skip) Tryz.func145 rfl];refine V.here (x:=one _) (m:=0) (nt:=6) (env:=entry 0 [.z (ptr m 0)]) ?_ (fN.enter Α.bare ⟨rfl,λi a v J U=>?_⟩ (Nat.le_refl _) η) _ rfl
 ·refine V.fR (γ _ _ _) rfl ?_;simp only[Tryz.f145,Option.getD_some]
  repeat first|apply a3|apply wb|apply a4|apply wd
  refine W.cr ?_;refine fw [0,1,2] [3] ?_;refine W.stop ?_;refine V.call (γ _ _ _) ⟨rfl,rfl,by simp[Frame.enter],rfl⟩ rfl rfl rfl ⟨_,Tryz.func176,rfl,rfl⟩ λbN bT H1 t1 o7 κ ψ hv=>?_;obtain rfl:=m1 (l:=[ptr m 0]) hv;obtain rfl:bT=[]:=dG.1 ψ.holds.len;rintro y rfl;refine Yz δ ψ.holds (L:=L) λc9 bR lr jx=>?_;obtain⟨jC,E,Χ,ak,aY⟩:=da c9 bR (κ.ext.trans lr) jx;refine⟨jC,E,Χ,ak,λv4 j2 j3 ox=>?_⟩;rw[iF rfl];refine cx.leaveD (γ _ _ _) rfl rfl rfl rfl Tryz.func145 rfl pj ?_;exact aY v4 j2 j3 ox
 ·cases i with
  | zero=>simp at J U;subst J;subst U;exact .z _
  | succ i=>simp at J
end
structure mf (x:aZ) (s:Nat) (sp:Spec):Prop where
 rel:x.rel=false
 aM:x.aM=λ_=>none
 spec:x.spec s=some sp
 top:sp.top<7
 still:∀bm,bm≠s->nm (x.tok bm)
theorem mf.seq {x:aZ} {s:Nat} {sp:Spec} (h:mf x s sp):∀t v d,@Seq e1 (one (bx x s t v d)):=λt v d=>@Seq.uu e1 _ trivial h.rel h.aM
abbrev ij (c w:Nat):Int:=(c:Int)*4294967296+w
theorem ED:∀c<8,∀w<2,eY .u64 (ij c w) 2147483648=0:=by decide +kernel
theorem EE:∀c<8,∀w<2,IntKind.i32.wrap ((ij c w).fdiv (2 ^ min 32 IntKind.u64.bits))=c:=by decide +kernel
theorem EF:∀c<8,∀w<2,IntKind.u32.wrap (eY .u64 (ij c w) 2147483647)=w:=by decide +kernel
theorem YE:∀c<7,∀w<2,IntKind.u64.wrap (ij c w+4294967296)=ij (c+1) w:=by decide +kernel
theorem YF:∀c<8,∀w<2,0<c->IntKind.u64.wrap (ij c w+18446744069414584320)=ij (c-1) w:=by decide +kernel
theorem YG:∀c<8,IntKind.u64.wrap (ij c 0+1)=ij c 1:=by decide +kernel
theorem OD:IntKind.u64.wrap 1=1:=bu
theorem OE:IntKind.u64.wrap (2 ^ min 32 IntKind.u64.bits)=4294967296:=bu
theorem Iv:IntKind.i32.wrap 1=1:=bu
theorem uB (ξ:aS):cW ξ=ij ξ.cnt ξ.wt:=rfl
section
variable {Q:Value->Prop} {mn:Bool} {x:aZ} {c:Frame} {rest:List Frame} {S:aJ} {B:aV} {σ:List Row} {H:χ} {s k:Nat} {sp:Spec} {v:Option (Nat×aS)} {t:Tok}
theorem EG (δ:mf x s sp) {ξ:aS} (h:ξ.toSpec=sp):ξ.top<7:=by have:=δ.top;rw[show ξ.top=sp.top by rw[<-h]];exact this
def ye (Q:Value->Prop) (mn:Bool) (x:aZ) (c:Frame) (rest:List Frame) (S:aJ) (H:χ) (r:Value):Prop:=
 ∀(aE:aJ) (H':χ),Ext S [] H aE [] H'->Holds aE [] [] H'->cx Tryz.prog Q mn x (c.finish r) rest H'
theorem YH (δ:mf x s sp) (cS:¬gj t) {d:Int} (Α:Holds S B σ H)
  (dA:∀φ ξ,Seen (bx x s t v 1) s sp φ ξ->∃o' t',cW o'=IntKind.u64.wrap (cW ξ+d)/\o'.cO=ξ.cO/\rI ξ o'/\Act ξ t o' t'/\∀cu,cu<φ->ye Q mn (bx x s t' (some (cu,o')) 1) c rest S H (.int .u64 (cW o'))) :
  cx Tryz.prog Q mn (bx x s t v 1) (Frame.enter Tryz.prog 166 #[ptr s 0,.int .u64 d] .normal) (c::rest) H:=by
 letI:bn:=e1;have γ:=δ.seq;refine V.qo (z:=one _) (vs:=[ptr s 0,.int .u64 d]) Tryz.func166 rfl Α (by simp[Tryz.ntmps166]) ?_ _ rfl;refine V.b6 (γ _ _ _) ?_;(repeat (first|apply a3|apply wb|apply a4|apply wd|refine ai rfl ?_|refine aa rfl ?_|(refine bs λΕ ζ=>?_;simp;(repeat (rw[Ο];simp[]));apply ζ)));refine W.cr ?_;refine fw [0,1,2,3] [4,5] ?_;refine W.stop ?_;refine V.H9 (γ _ _ _).here (Nat.succ_pos _) (sp:=sp) δ.spec (by rw[b7];exact cS) ⟨⟨rfl,rfl,by simp[Frame.enter],rfl⟩,Od,⟨_,rfl⟩,rfl,rfl,rfl⟩ (λφ ξ ν=>?_);obtain⟨o',t',J,U,μ,Θ,av⟩:=dA φ ξ ν;refine⟨o',t',J,U,μ,by rw[b7];exact Θ,λcu eD=>?_⟩;rw[g6];refine V.b6 (γ _ _ _) ?_;refine W.part (A:=[]) Ρ [5] [] rfl λΕ ζ=>?_;(try simp);(repeat (rw[Ο];simp[]));(try simp[]);apply ζ;refine W.bJ (.stop ?_);refine V.sV (γ _ _ _) rfl rfl rfl rfl Tryz.func166 rfl rfl λbN bT H1 κ jW=>?_;obtain rfl:bT=[]:=dG.1 jW.len;rintro y rfl;exact av cu eD bN H1 κ.ext jW
theorem Iw (δ:mf x s sp) (cS:¬gj t) (Α:Holds S B σ H)
  (dA:∀φ ξ,Seen (bx x s t v 1) s sp φ ξ->ye Q mn (bx x s t (some (φ,ξ)) 1) c rest S H (.int .u64 (cW ξ))\/∃t',Act ξ t ξ t'/\∀cu,cu<φ->ye Q mn (bx x s t' (some (cu,ξ)) 1) c rest S H (.int .u64 (cW ξ))) :
  cx Tryz.prog Q mn (bx x s t v 1) (Frame.enter Tryz.prog 168 #[ptr s 0] .normal) (c::rest) H:=by
 letI:bn:=e1;have γ:=δ.seq;refine V.qo (z:=one _) (vs:=[ptr s 0]) Tryz.func168 rfl Α (by simp[Tryz.ntmps168]) ?_ _ rfl;refine V.b6 (γ _ _ _) ?_;(repeat (first|apply a3|apply wb|apply a4|apply wd|refine ai rfl ?_|refine aa rfl ?_|(refine bs λΕ ζ=>?_;simp;(repeat (rw[Ο];simp[]));apply ζ)));refine W.cr ?_;refine fw [0,1,2] [3,4] ?_;refine W.stop ?_;refine V.H8 (γ _ _ _).here (Nat.succ_pos _) (sp:=sp) δ.spec (by rw[b7];exact cS) ⟨⟨rfl,rfl,by simp[Frame.enter],rfl⟩,Oe,⟨_,rfl⟩,rfl,rfl,rfl⟩ (λφ ξ ν=>(dA φ ξ ν).imp (λh=>?_) (λ⟨t',Θ,av⟩=>⟨t',by rw[b7];exact Θ,λcu eD=>?_⟩))
 ·unfold iv;rw[kA];refine V.b6 (γ _ _ _) ?_;refine W.part (A:=[]) Ρ [4] [] rfl λΕ ζ=>?_;(try simp);(repeat (rw[Ο];simp[]));(try simp[]);apply ζ;refine W.bJ (.stop ?_);refine V.sV (γ _ _ _) rfl rfl rfl rfl Tryz.func168 rfl rfl λbN bT H1 κ jW=>?_;obtain rfl:bT=[]:=dG.1 jW.len;rintro y rfl;exact h bN H1 κ.ext jW
 ·rw[g6];refine V.b6 (γ _ _ _) ?_;refine W.part (A:=[]) Ρ [4] [] rfl λΕ ζ=>?_;(try simp);(repeat (rw[Ο];simp[]));(try simp[]);apply ζ;refine W.bJ (.stop ?_);refine V.sV (γ _ _ _) rfl rfl rfl rfl Tryz.func168 rfl rfl λbN bT H1 κ jW=>?_;obtain rfl:bT=[]:=dG.1 jW.len;rintro y rfl;exact av cu eD bN H1 κ.ext jW
theorem YI (δ:mf x s sp) (cS:¬gj t) (Α:Holds S B σ H) {old new:Int}
  (Av:∀φ ξ,Seen (bx x s t v 1) s sp φ ξ->¬cW ξ=old->ye Q mn (bx x s t (some (φ,ξ)) 1) c rest S H (.bool false))
  (dA:∀φ ξ,Seen (bx x s t v 1) s sp φ ξ->cW ξ=old->∃o' t',cW o'=new/\o'.cO=ξ.cO/\rI ξ o'/\Act ξ t o' t'/\∀cu,cu<φ->ye Q mn (bx x s t' (some (cu,o')) 1) c rest S H (.bool true)) :
  cx Tryz.prog Q mn (bx x s t v 1) (Frame.enter Tryz.prog 179 #[ptr s 0,.int .u64 old,.int .u64 new] .normal) (c::rest) H:=by
 letI:bn:=e1;have γ:=δ.seq;refine V.qo (z:=one _) (vs:=[ptr s 0,.int .u64 old,.int .u64 new]) Tryz.func179 rfl Α (by simp[Tryz.ntmps179]) ?_ _ rfl;refine V.b6 (γ _ _ _) ?_;(repeat (first|apply a3|apply wb|apply a4|apply wd|refine ai rfl ?_|refine aa rfl ?_|(refine bs λΕ ζ=>?_;simp;(repeat (rw[Ο];simp[]));apply ζ)));refine W.cr ?_;refine fw [0,1,2,3,4] [5,6] ?_;refine W.stop ?_;refine V.XI (γ _ _ _).here (Nat.succ_pos _) (sp:=sp) δ.spec (by rw[b7];exact cS) ⟨⟨rfl,rfl,by simp[Frame.enter],rfl⟩,Yb,⟨_,rfl⟩,rfl,rfl,rfl⟩ (λφ ξ ν hv=>?_) (λφ ξ ν hv=>?_)
 ·have h:=Av φ ξ ν hv;unfold iv;rw[kA];refine V.b6 (γ _ _ _) ?_;refine W.part (A:=[]) Ρ [6] [] rfl λΕ ζ=>?_;(try simp);(repeat (rw[Ο];simp[]));(try simp[]);apply ζ;refine W.bJ (.stop ?_);refine V.sV (γ _ _ _) rfl rfl rfl rfl Tryz.func179 rfl rfl λbN bT H1 κ jW=>?_;obtain rfl:bT=[]:=dG.1 jW.len;rintro y rfl;exact h bN H1 κ.ext jW
 ·obtain⟨o',t',J,U,μ,Θ,av⟩:=dA φ ξ ν hv;refine⟨o',t',J,U,μ,by rw[b7];exact Θ,λcu eD=>?_⟩;rw[g6];refine V.b6 (γ _ _ _) ?_;refine W.part (A:=[]) Ρ [6] [] rfl λΕ ζ=>?_;(try simp);(repeat (rw[Ο];simp[]));(try simp[]);apply ζ;refine W.bJ (.stop ?_);refine V.sV (γ _ _ _) rfl rfl rfl rfl Tryz.func179 rfl rfl λbN bT H1 κ jW=>?_;obtain rfl:bT=[]:=dG.1 jW.len;rintro y rfl;exact av cu eD bN H1 κ.ext jW
end
theorem fN.gn {m nt:Nat} {S aE:aJ} {B:aV} {H H':χ} {env:Ω} {t:Array Value} (h:fN m nt S B H [] env t) (he:∀p∈env,∃v,p.2=θ.z v) (Α:Holds aE [] [] H'):fN 0 nt aE [] H' [] env t:=⟨Α,AI he h.cA,h.size,Nat.le_refl _⟩
theorem cx.Ix [bn] {P:Program} {Q:Value->Prop} {mn:Bool} {x:aZ} {c b:Frame} {rest:List Frame} {H:χ} {t:Array Value} {k:List Item} {fn:Func} {f:FuncId} (γ:Seq (one x)) (hR:Seq (one {x with deaf:=x.deaf-1})) (hd:0<x.deaf) (hb:b.mode=.run) (cn:b.roundOf=none) (eR:b.defers=[Go.Conc.dcall f #[]]) (gY:b.kind=.normal) (bM:P.funcs[b.fn]?=some fn) (e6:fn.results=#[])
  (he:Entry P f (λ_=>do mark .enable;pure Extern.Race.none_)) (h:cx P Q mn {x with deaf:=x.deaf-1} (c.finish (.tuple #[])) rest H):cx P Q mn x (aA b t (.code .ret::k)) (c::rest) H:=by
 refine aR.ret (x:=one x) γ hb cn (λy Ι=>?_) x rfl;cases Ι;refine cx.XO γ.here hd hb cn eR he ?_;refine aR.back (f:={aA {b with defers:=[]} t (.code .ret::k) with mode:=.returning}) (x:=one {x with deaf:=x.deaf-1}) hR rfl rfl (.inl gY) bM ?_ _ rfl;rw[results_none e6];refine π.pure' (λy Ι=>?_);cases Ι;exact h
section
variable {Q:Value->Prop} {mn:Bool} {x:aZ} {c:Frame} {rest:List Frame} {S:aJ} {B:aV} {σ:List Row} {H:χ} {s n p:Nat} {sp:Spec} {v:Option (Nat×aS)} {t:Tok}
theorem YJ (δ:mf x s sp) (Ζ:n<sp.top) (Α:Holds S B σ H)
  (Κ:∀v,ye Q mn (bx x s (.par (n+1) (p+1) .add) v 0) c rest S H (.tuple #[])) :
  cx Tryz.prog Q mn (bx x s (.par n p .add) v 0) (Frame.enter Tryz.prog 140 #[ptr s 0,.int .i64 1] .normal) (c::rest) H:=by
 letI:bn:=e1;have γ:=δ.seq;refine V.qo (z:=one _) (vs:=[ptr s 0,.int .i64 1]) Tryz.func140 rfl Α (by simp[Tryz.ntmps140]) ?_ _ rfl;refine V.b6 (γ _ _ _) ?_;(repeat (first|apply a3|apply wb|apply a4|apply wd|refine ai rfl ?_|refine aa rfl ?_|(refine bs λΕ ζ=>?_;simp;(repeat (rw[Ο];simp[]));apply ζ)));refine W.cr (.stop ?_);refine V.disable (γ _ _ _).here ⟨⟨rfl,rfl,by simp[Frame.enter],rfl⟩,AA,⟨_,rfl⟩,rfl,rfl,rfl⟩ ?_;rw[Aw];refine V.b6 (γ _ _ _) ?_;refine W.bJ ?_
 repeat first|apply a3|apply wb|apply a4|apply wd
 refine W.cr (.stop ?_);refine V.Ib (γ _ _ _) ⟨rfl,rfl,by simp[Frame.enter],rfl⟩ rfl rfl rfl ?_;refine V.b6 (γ _ _ _) ?_;refine W.bJ ?_;(repeat (first|apply a3|apply wb|apply a4|apply wd|refine ai rfl ?_|refine aa rfl ?_|(refine bs λΕ ζ=>?_;simp;(repeat (rw[Ο];simp[]));apply ζ)));refine W.cr (.stop ?_);refine V.Es (γ _ _ _) (vs:=[]) ⟨⟨rfl,rfl,by simp[Frame.enter],rfl⟩,Ob,⟨_,rfl⟩,rfl,rfl,rfl⟩ ?_;refine V.b6 (γ _ _ _) ?_;refine W.bJ ?_;(repeat (first|apply a3|apply wb|apply a4|apply wd|refine ai rfl ?_|refine aa rfl ?_|(refine bs λΕ ζ=>?_;simp;(repeat (rw[Ο];simp[]));apply ζ)));refine W.cr ?_;refine W.part (A:=[]) Ρ [0,1,2,3,4,5] [6,7] rfl λΕ ζ=>?_;(try simp);(repeat (rw[Ο];simp[OD,OE]));(try simp[OD,OE]);apply ζ;refine W.stop ?_;refine V.call (γ _ _ _) ⟨rfl,rfl,by simp[Frame.enter],rfl⟩ rfl rfl rfl ⟨_,Tryz.func166,rfl,rfl⟩ λbN bT H1 t1 o7 κ ψ hv=>?_;obtain rfl:=m1 (l:=[ptr s 0,.int .u64 4294967296]) hv;obtain rfl:bT=[]:=dG.1 ψ.holds.len;rintro y rfl;refine YH δ id ψ.holds λφ ξ ν=>?_;have ς:=ν.jE.sY;rw[b7] at ς;obtain⟨Χ,ak,aY,cy,gB⟩:=ς.add n p rfl;have gP:=EG δ ν.spec;have q0:n<ξ.top:=by rw[show ξ.top=sp.top by rw[<-ν.spec]];exact Ζ
 have small:∀a b c d:Nat,a=b+1->b<=c->c<d->d<7->a<8/\b<7/\0<a/\¬a=0:=λa b c d J U μ Θ=>R;obtain⟨cc,mI⟩:=aK (ξ.cnt+1);obtain⟨k1,cN,pU,iΗ⟩:=small cc ξ.cnt n ξ.top mI gB q0 gP;have qT:cW {ξ with cnt:=cc}=ij cc 0:=by rw[uB];simp only[Χ]
 refine⟨{ξ with cnt:=cc},.par (n+1) (p+1) .add,?_,rfl,⟨rfl,rfl,rfl⟩,by rw[mI];exact .add q0,λcu eD c9 bR lr jx=>?_⟩
 ·rw[qT,uB,Χ,YE ξ.cnt cN 0 bu,mI]
 have f1:=ED cc k1 0 bu
 have f2:=EE cc k1 0 bu
 have f3:=EF cc k1 0 bu;rw[qT];generalize ij cc 0=w at f1 f2 f3;rw[iF rfl];refine V.here (x:=one _) (m:=0) (nt:=117) ?_ ((ψ.put (a:=.z (.int .u64 w)) rfl (.z _)).gn η jx) _ rfl;have fin:∀(v:Option (Nat×aS)) (env:Ω) (K:List Item),V Tryz.prog Q mn (one (bx x s (.par (n+1) (p+1) .add) v 1)) {Frame.enter Tryz.prog 140 #[ptr s 0,.int .i64 1] .normal with defers:=[Go.Conc.dcall 161 #[]]} (c::rest) 117 ⟨c9,[],bR,[],0⟩ (.code .ret::K) env []:=λv env K kQ kR jC t3 hK e9=>by
  rintro y rfl;obtain rfl:kR=[]:=dG.1 e9.holds.len;exact cx.Ix (γ _ _ _) (γ _ _ 0) (Nat.succ_pos _) rfl rfl rfl rfl Tryz.func140 rfl uw (Κ v kQ jC ((κ.ext.trans lr).trans hK.ext) e9.holds)
 refine V.b6 (γ _ _ _) ?_;refine W.part (A:=[]) Ρ [7] [] rfl λΕ ζ=>?_;(try simp);(repeat (rw[Ο];simp[]));(try simp[]);apply ζ;refine W.bJ ?_;by_cases J:cc=1
 ·(repeat (first|apply a3|apply wb|apply a4|apply wd|refine ai rfl ?_|refine aa rfl ?_|(refine bs λΕ ζ=>?_;simp;(repeat (rw[Ο];simp[f1,f2,f3,Iv,J]));apply ζ)));refine W.cr ?_;refine fw [0,1,2] [3,4] ?_;refine W.stop ?_;refine V.conv (γ _ _ _).here (sp:=sp) δ.spec (by rw[b7];exact id) ⟨rfl,rfl,by simp[Frame.enter],rfl⟩ rfl rfl rfl Oh uy Oi rfl (λξ w ω bE=>⟨_,bE.Χ⟩) (λφ ξ ν=>?_);unfold iv;rw[kA];refine V.XG δ.rel b7 η ⟨⟨rfl,rfl,by simp[Frame.enter],rfl⟩,X',⟨_,rfl⟩,rfl,rfl,rfl⟩ ?_;refine V.b6 (γ _ _ _) ?_;refine W.bJ ?_;(repeat (first|apply a3|apply wb|apply a4|apply wd|refine ai rfl ?_|refine aa rfl ?_|(refine bs λΕ ζ=>?_;simp;(repeat (rw[Ο];simp[f1,f2,f3,Iv,J]));apply ζ)));exact .stop (fin _ _ _)
 ·have xi:¬(cc:Int)=1:=λh=>J (by exact_mod_cast h);(repeat (first|apply a3|apply wb|apply a4|apply wd|refine ai rfl ?_|refine aa rfl ?_|(refine bs λΕ ζ=>?_;simp;(repeat (rw[Ο];simp[f1,f2,f3,Iv,J,xi,pU]));apply ζ)));exact .stop (fin _ _ _)
end
end Go.TL
