import Derived.Test.YtlabjopijpkiaaaGreatCAU
set_option maxHeartbeats 16000000
set_option maxRecDepth 20000
set_option linter.unusedSectionVars false
set_option linter.unusedSimpArgs false
set_option linter.unusedVariables false
namespace Go.TL
open Go.Conc Go.Proofs
open Go.ConcN (sumTo upd sumTo_upd upd_ne upd_same sumTo_congr le_sumTo)
structure jT (x:a2) (s m:Nat) (sp:Spec):Prop where
 rel:x.rel=false
 aN:x.aN=λ_=>none
 spec:x.spec s=some sp
 aZ:sp.aZ=some m
 top:sp.top<7
 still:∀bk,bk≠s->nF (x.tok bk)
theorem jT.seq {x:a2} {s m:Nat} {sp:Spec} (h:jT x s m sp):∀t v d,@Seq eX (one (bu x s t v d)):=λt v d=>@Seq.vb eX _ trivial h.rel h.aN
theorem cC.YY [bp] {P:Program} {Q:Value->Prop} {mn:Bool} {x:a2} {c b:Frame} {rest:List Frame} {H:Α} {t:Array Value} {ops:Array Oper} {k:List Item} {fn:Func} (γ:Seq (one x)) (hb:b.mode=.run) (cu:b.roundOf=none) (eV:b.defers=[]) (g6:b.kind=.normal) (bL:P.funcs[b.fn]?=some fn) (fc:fn.results=#[])
  (h:cC P Q mn x (c.finish (.tuple #[])) rest H):cC P Q mn x (ax b t (.inRegion ops []::.code .ret::k)) (c::rest) H:=by
 refine aU.bF (x:=one x) γ hb (.ret γ hb cu (.back γ rfl eV (.inl g6) bL ?_)) x rfl;rw[results_none fc];exact ς.pure' (λy Κ=>by cases Κ;exact h)
abbrev ptr (b o:Nat):Value:=.pointer (some ⟨b,o,none⟩)
section
variable {Q:Value->Prop} {mn:Bool} {x:a2} {c:Frame} {rest:List Frame} {S:aL} {B:aW} {σ:List Row} {H:Α} {s m k:Nat} {sp:Spec} {v:Option (Nat×aV)}
def tD (Q:Value->Prop) (mn:Bool) (x:a2) (c:Frame) (rest:List Frame) (S:aL) (H:Α) (s k:Nat) (sp:Spec):Prop:=
 ∀(aF:aL) (H':Α) (L:List Nat) (E:Α),Ext S [] H aF [] H'->Holds aF [] [] H'->sp.ar L E->Apart H' E->(L.Nodup/\k∉L/\∃w,Fits H' w/\Fits E w)->cC Tryz.prog Q mn (bu x s (.ch k (.dr L) .work) none 0) (c.finish (.tuple #[])) rest (join H' E)
def OM (Q:Value->Prop) (mn:Bool) (x:a2) (s m k:Nat) (sp:Spec):Prop:=∀(c:Frame) (rest:List Frame) (S:aL) (B:aW) (σ:List Row) (H:Α) (v:Option (Nat×aV)),Holds S B σ H->tD Q mn x c rest S H s k sp->
 cC Tryz.prog Q mn (bu x s (.ch k (.act false) .work) v 1) (Frame.enter Tryz.prog 213 #[ptr m 0] .normal) (c::rest) H
theorem YZ (ε:jT x s m sp) (Β:Holds S B σ H) (Y0:OM Q mn x s m k sp)
  (Ι:tD Q mn x c rest S H s k sp):cC Tryz.prog Q mn (bu x s (.ch k .idle .work) v 0) (Frame.enter Tryz.prog 175 #[ptr m 0] .normal) (c::rest) H:=by
 letI:bp:=eX;have γ:=ε.seq;refine V.qL (z:=one _) (vs:=[ptr m 0]) Tryz.func175 rfl Β (by simp[Tryz.ntmps175]) ?_ _ rfl;refine V.cd (γ _ _ _) ?_;refine c7 ?_;refine W.cy (.stop ?_);refine V.disable (γ _ _ _).here ⟨⟨rfl,rfl,by simp[Frame.enter],rfl⟩,Be,⟨_,rfl⟩,rfl,rfl,rfl⟩ ?_;rw[Ba];refine V.cd (γ _ _ _) ?_;refine W.bF ?_;refine c7 ?_;refine W.cy ?_;refine fw [0,1,2] [3] ?_;refine W.stop ?_;refine V.EU (γ _ _ _).here (Nat.succ_pos _) (sp:=sp) ε.spec (by rw[cf];exact id) ε.aZ ⟨⟨rfl,rfl,by simp[Frame.enter],rfl⟩,E1,⟨_,rfl⟩,rfl,rfl,rfl⟩ (λφ ο ν hv=>?_) (λφ ο ν hv=>?_)
 ·refine .inr ⟨.ch k (.act false) .work,by rw[cf];exact .R5,λcA _=>?_⟩;rw[hj];refine V.cd (γ _ _ _) ?_;refine W.bF ?_;refine c7 ?_;refine aA rfl ?_;refine c7 ?_;refine W.cy ?_;refine fw [0] [1] ?_;refine W.stop ?_;refine V.call (γ _ _ _) ⟨rfl,rfl,by simp[Frame.enter],rfl⟩ rfl rfl rfl ⟨_,Tryz.func213,rfl,rfl⟩ λbM bS H1 t1 pB κ π hv=>?_;obtain rfl:=nj (l:=[ptr m 0]) hv;rintro y rfl;refine Y0 _ _ bM bS _ H1 _ π.holds λcU bH L E kq jL cR iA wX=>?_;rw[iY rfl];refine cC.leave0 (γ _ _ _) rfl rfl rfl rfl Tryz.func175 rfl ?_;obtain rfl:bS=[]:=dO.1 π.holds.len;exact Ι cU bH L E (κ.ext.trans kq) jL cR iA wX
 ·have an:ο.cn=0/\ο.sv=0/\ο.wk=0/\ο.nw=0:=by simp only[mwd] at hv;omega
  refine⟨{ο with cn:=1},.ch k .own .work,by simp[mwd];omega,rfl,⟨rfl,rfl,rfl⟩,by rw[cf];exact .R4 an.1 an.2.1 an.2.2.1 an.2.2.2,λcA _=>?_⟩;rw[hj];refine V.cd (γ _ _ _) ?_;refine W.bF ?_;refine c7 ?_;refine aD rfl ?_;refine c7 ?_;refine aD rfl ?_;refine c7 ?_;refine W.cy (.stop ?_);refine V.enable (γ _ _ _).here (Nat.succ_pos _) ⟨⟨rfl,rfl,by simp[Frame.enter],rfl⟩,vd,⟨_,rfl⟩,rfl,rfl,rfl⟩ ?_;rw[Bb];refine V.cd (γ _ _ _) ?_;refine W.bF ?_;refine c7 ?_;refine W.cy ?_;refine fw [0] [1,2] ?_;refine W.stop ?_;refine V.conv (γ _ _ _).here (sp:=sp) ε.spec (by rw[cf];exact id) ⟨rfl,rfl,by simp[Frame.enter],rfl⟩ rfl rfl rfl IN ve IP rfl (λο w ψ bE=>⟨_,bE.dT (by rw[ψ];exact ε.aZ)⟩) (λφ ο ν=>?_);unfold iP;rw[kN];refine V.CO ε.rel rfl (sp:=sp) ε.spec ε.aZ cf ⟨⟨rfl,rfl,by simp[Frame.enter],rfl⟩,E0,⟨_,rfl⟩,rfl,rfl,rfl⟩ λbM bS H1 t1 L E κ π cR iA wX=>?_;rw[hj];obtain rfl:bS=[]:=dO.1 π.holds.len;refine cC.YY (γ _ _ _) rfl rfl rfl rfl Tryz.func175 rfl ?_;exact Ι bM H1 L E κ.ext π.holds cR iA wX
end
def ea:List Nat->Code->Code
 | [],c=>c
 | 0::l,.seq a _=>ea l a
 | _::l,.seq _ b=>ea l b
 | 0::l,.cond _ a _=>ea l a
 | _::l,.cond _ _ b=>ea l b
 | _::l,.block _ c=>ea l c
 | _::l,.loop c=>ea l c
 | _,c=>c
noncomputable def qQ:Code:=Tryz.f213.body.getD .skip
noncomputable def nm:Code:=ea [1,1,1,1,1,0,0,0] qQ
noncomputable def qR:Code:=ea [0,1] nm
noncomputable def sa:Code:=ea [1,1,1,1,1] qR
noncomputable def nn:Code:=ea [1,0] sa
noncomputable def Bf:Code:=ea [1,1,1,1,1,1] qQ
noncomputable def lK:List Item:=[.inLoop nm,.inBlock 0,.code Bf]
abbrev kr (Q:Value->Prop) (mn:Bool) (x:a2) (c:Frame) (rest:List Frame) (S:aL) (H:Α) (s m:Nat) (t:Tok) (v:Option (Nat×aV)) (d:Nat) (K:List Item) (env:Χ):Prop:=
 V Tryz.prog Q mn (one (bu x s t v d)) (Frame.enter Tryz.prog 213 #[ptr m 0] .normal) (c::rest) 139 ⟨S,[],H,[],0⟩ K env []
def c0 (m:Nat) (w:Int) (aw st:Bool) (it τ:Int):Χ:=[(0,.z (ptr m 0)),(2,.z (.int .i64 τ)),(3,.z (.bool st)),(4,.z (.bool aw)),(5,.z (.int .i64 it)),(6,.z (.int .i32 w))]
def pJ (a b c n:Nat) (aw st:Bool):Int:=
 if a=0/\c=0 then hk 1 (if aw then 0 else b) 0 n else hk a (if aw then 0 else b) (if st=true/\a=1 then 1 else c) (n+1)
section
variable {Q:Value->Prop} {mn:Bool} {x:a2} {c:Frame} {rest:List Frame} {S:aL} {B:aW} {σ:List Row} {H:Α} {s m k:Nat} {sp:Spec} {v:Option (Nat×aV)} {t:Tok}
theorem Y1 (ε:jT x s m sp) {a b dY n:Nat} {aw st:Bool} {it τ:Int} (κ:a<2) (hb:b<2) (jM:dY<2) (Ζ:n<7) (Y2:aw=true->dY=0/\b=1) (cH:st=true->aw=true)
  (hC:kr Q mn x c rest S H s m t v 1 (.code (ea [0] sa)::.code (ea [1] sa)::.inBlock 1::lK) (c0 m (hk a b dY n) aw st it τ++[(7,.z (.int .i32 (pJ a b dY n aw st)))])) :
  kr Q mn x c rest S H s m t v 1 (.code qR::.inBlock 1::lK) (c0 m (hk a b dY n) aw st it τ):=by
 letI:bp:=eX;have γ:=ε.seq;have iy:(a=0\/a=1)/\(dY=0\/dY=1):=R;have cM:=IK a κ b hb dY jM n R;have fh:=IJ a κ b hb dY jM n R;have Γ:=YK a κ b hb dY jM n R;have dW:=YL a κ b hb dY jM n R;have vf:=YO a κ b hb dY jM n Ζ;refine V.cd (γ _ _ _) ?_;unfold qR nm qQ;cases aw with
 | false=>
  have ν:st=false:=by cases st<;>simp_all
  subst ν;rcases iy with⟨rfl|rfl,rfl|rfl⟩
  ·(repeat (first|apply gG|apply wb|apply hy|apply wd|refine aD rfl ?_|refine aA rfl ?_|(refine dx λΘ θ=>?_;simp;(repeat (rw[al];simp[c0,cM,fh,dW]));apply θ)));exact W.forget _ (by simp[c0,pJ]) (.stop hC)
  ·(repeat (first|apply gG|apply wb|apply hy|apply wd|refine aD rfl ?_|refine aA rfl ?_|(refine dx λΘ θ=>?_;simp;(repeat (rw[al];simp[c0,cM,fh,vf]));apply θ)));exact W.forget _ (by simp[c0,pJ]) (.stop hC)
  ·(repeat (first|apply gG|apply wb|apply hy|apply wd|refine aD rfl ?_|refine aA rfl ?_|(refine dx λΘ θ=>?_;simp;(repeat (rw[al];simp[c0,cM,fh,dW,vf]));apply θ)));exact W.forget _ (by simp[c0,pJ]) (.stop hC)
  ·(repeat (first|apply gG|apply wb|apply hy|apply wd|refine aD rfl ?_|refine aA rfl ?_|(refine dx λΘ θ=>?_;simp;(repeat (rw[al];simp[c0,cM,fh,vf]));apply θ)));exact W.forget _ (by simp[c0,pJ]) (.stop hC)
 | true=>
  obtain⟨rfl,rfl⟩:=Y2 rfl;rcases iy with⟨rfl|rfl,-⟩
  ·have dA:=EZ 1 R 1 R 0 R n R
   have p2:=IL 1 R 1 R 0 R n R;cases st
   ·(repeat (first|apply gG|apply wb|apply hy|apply wd|refine aD rfl ?_|refine aA rfl ?_|(refine dx λΘ θ=>?_;simp;(repeat (rw[al];simp[c0,cM,fh,dW,dA,p2]));apply θ)));exact W.forget _ (by simp[c0,pJ]) (.stop hC)
   ·(repeat (first|apply gG|apply wb|apply hy|apply wd|refine aD rfl ?_|refine aA rfl ?_|(refine dx λΘ θ=>?_;simp;(repeat (rw[al];simp[c0,cM,fh,Γ,dW,dA,p2]));apply θ)));exact W.forget _ (by simp[c0,pJ]) (.stop hC)
  ·cases st
   ·have dA:=EZ 1 R 1 R 0 R (n+1) R
    have p2:=IL 1 R 1 R 0 R (n+1) R;(repeat (first|apply gG|apply wb|apply hy|apply wd|refine aD rfl ?_|refine aA rfl ?_|(refine dx λΘ θ=>?_;simp;(repeat (rw[al];simp[c0,cM,fh,dW,vf,dA,p2]));apply θ)));exact W.forget _ (by simp[c0,pJ]) (.stop hC)
   ·have jH:=YN 1 R 1 R 0 R (n+1) R
    have dA:=EZ 1 R 1 R 1 R (n+1) R
    have p2:=IL 1 R 1 R 1 R (n+1) R;(repeat (first|apply gG|apply wb|apply hy|apply wd|refine aD rfl ?_|refine aA rfl ?_|(refine dx λΘ θ=>?_;simp;(repeat (rw[al];simp[c0,cM,fh,Γ,dW,vf,jH,dA,p2]));apply θ)));exact W.forget _ (by simp[c0,pJ]) (.stop hC)
theorem ON (ε:jT x s m sp) (Ι:tD Q mn x c rest S H s k sp) {env:Χ} (an:a5 env 0=.z (ptr m 0)):kr Q mn x c rest S H s m (.ch k .own .work) v 1 [.code Bf] env:=by
 letI:bp:=eX;have γ:=ε.seq;refine V.cd (γ _ _ _) ?_;unfold Bf qQ;refine aD rfl ?_;refine c7 ?_;refine W.cy (.stop ?_);refine V.enable (γ _ _ _).here (Nat.succ_pos _) ⟨⟨rfl,rfl,by simp[Frame.enter],rfl⟩,vd,⟨_,rfl⟩,rfl,rfl,rfl⟩ ?_;rw[Bb];refine V.cd (γ _ _ _) ?_;refine W.bF ?_;refine c7 ?_;refine W.cy ?_;refine W.part (A:=[]) Υ [0] [1,2] rfl λΘ θ=>?_;simp;(repeat (rw[al];simp[an]));apply θ;refine W.stop ?_;refine V.conv (γ _ _ _).here (sp:=sp) ε.spec (by rw[cf];exact id) ⟨rfl,rfl,by simp[Frame.enter],rfl⟩ rfl rfl rfl IN ve IP rfl (λο w ψ bE=>⟨_,bE.dT (by rw[ψ];exact ε.aZ)⟩) (λφ ο ν=>?_);unfold iP;rw[kN];refine V.CO ε.rel rfl (sp:=sp) ε.spec ε.aZ cf ⟨⟨rfl,rfl,by simp[Frame.enter],rfl⟩,E0,⟨_,rfl⟩,rfl,rfl,rfl⟩ λbM bS H1 t1 L E κ π cR iA wX=>?_;rw[hj];obtain rfl:bS=[]:=dO.1 π.holds.len;refine cC.leave0 (γ _ _ _) rfl rfl rfl rfl Tryz.func213 rfl ?_;exact Ι bM H1 L E κ.ext π.holds cR iA wX
end
section
variable {Q:Value->Prop} {mn:Bool} {x:a2} {c:Frame} {rest:List Frame} {S:aL} {B:aW} {σ:List Row} {H:Α} {s m k:Nat} {sp:Spec} {v:Option (Nat×aV)} {t:Tok}
theorem E2:(Tryz.prog.funcs[213]?).any (·.norace)=true:=by kernel_rfl
theorem OO:(Tryz.prog.funcs[245]?).any (·.norace)=true:=by kernel_rfl
def Bg (Q:Value->Prop) (mn:Bool) (x:a2) (c:Frame) (rest:List Frame) (S:aL) (H:Α) (s m k:Nat) (sp:Spec) (φ:Nat):Prop:=
 ∀(cA:Nat) (ο:aV) (aw st:Bool) (it τ:Int),cA<φ->ο.toSpec=sp->tB ο (.ch k (.act aw) .work)->(st=true->aw=true)->0<=it->it<=4->kr Q mn x c rest S H s m (.ch k (.act aw) .work) (some (cA,ο)) 1 lK (c0 m (mwd ο) aw st it τ)
theorem OP {ο:aV} {aw:Bool} (h:tB ο (.ch k (.act aw) .work)):aw=true->ο.sv=0/\ο.wk=1:=λe=>h.Cm (by rw[e];rfl)
theorem Y3 (ε:jT x s m sp) (Ι:tD Q mn x c rest S H s k sp) {φ:Nat} (ω:Bg Q mn x c rest S H s m k sp φ) {g0:Nat} {lL:aV} (an:g0<φ) {st:Bool} {τ:Int} :
  kr Q mn x c rest S H s m (.ch k .wk .work) (some (g0,lL)) 1 (.code (ea [1,1,1,1,1] nn)::.inBlock 1::lK) [(0,.z (ptr m 0)),(2,.z (.int .i64 τ)),(3,.z (.bool st))]:=by
 letI:bp:=eX;have γ:=ε.seq;refine V.cd (γ _ _ _) ?_;unfold nn sa qR nm qQ;refine c7 ?_;refine W.cy ?_;refine fw [0,1,2] [3,4] ?_;refine W.stop ?_;refine V.yI (γ _ _ _).here (sp:=sp) ε.spec (by rw[cf];exact id) ⟨rfl,rfl,by simp[Frame.enter],rfl⟩ rfl rfl rfl yJ rfl E2 mwd (λο w ψ bE=>bE.dT (by rw[ψ];exact ε.aZ)) (λhl ο ν=>.inr ?_);have χ:=ν.jS.nG;rw[cf] at χ;have hv:=ν.view g0 lL pH;have OQ:=χ.zo rfl;have gY:ο.top<7:=by have:=ε.top;rw[show ο.top=sp.top by rw[<-ν.spec]];exact this
 have Ζ:=χ.nw
 have ξ:=χ.cn;have hw:=χ.wk;have qH:=χ.sv
 have cM:=IK ο.cn R ο.wk R ο.sv R ο.nw R
 have a4:=YI ο.cn R ο.wk R ο.sv R ο.nw R
 have mC:=IM ο.cn R ο.wk R ο.sv R ο.nw R;rw[<-pI] at cM a4 mC;rcases(show ο.sv=0\/ο.sv=1 by omega) with n4|n4
 ·refine⟨.ch k (.act true) .work,by rw[cf];exact .norm n4,λcA eE=>?_⟩;rw[hj];rw[n4] at cM;refine V.cd (γ _ _ _) ?_;refine W.part (A:=[]) Υ [4] [] rfl λΘ θ=>?_;(try simp);(repeat (rw[al];simp[]));(try simp[]);apply θ;refine W.bF ?_;refine hU cM ?_;refine W.forget (c0 m (mwd ο) true st 0 τ) (by simp[c0]) (.stop ?_);exact ω cA ο true st 0 τ R ν.spec ⟨χ.cn,χ.wk,χ.sv,χ.db,χ.nw,λ_=>⟨n4,OQ.1 n4⟩,λh=>(by cases h),λh=>(by cases h),λh=>(by cases h)⟩ (λ_=>rfl) R R
 ·obtain⟨Ρ,aa,aX⟩:=OQ.2 n4;refine⟨.ch k .hw .work,by rw[cf];exact .hand n4,λcA eE=>?_⟩;rw[hj];rw[n4] at cM;rw[Ρ,aa] at a4;have bA:¬ο.nw=0:=R;have OR:IntKind.i32.wrap (-11)=-11:=br;have fin:∀(w:Option (Nat×aV)) (env:Χ),a5 env 0=.z (ptr m 0)->kr Q mn x c rest S H s m (.ch k .own .work) w 1 [.code Bf] env:=λw env h=>ON ε Ι h;have add:∀(rb:Bool) (env:Χ),a5 env 0=.z (ptr m 0)->a5 env 9=.z (.int .i32 (if rb then -11 else -7))->kr Q mn x c rest S H s m (.ch k .hw .work) (some (cA,ο)) 1 (.code (ea [1,1,1,1,1,1,0,1,0,1,1,1,0] nn)::.code (ea [1,1,1,1,1,1,0,1,0,1,1,1,1] nn)::.code (ea [1,1,1,1,1,1,1] nn)::.inBlock 1::lK) env:=λrb env an ug=>by
   refine V.cd (γ _ _ _) ?_;unfold nn sa qR nm qQ;refine c7 ?_;refine W.cy ?_;refine W.part (A:=[]) Υ [0,1,2,3] [4] rfl λΘ θ=>?_;(try simp);(repeat (rw[al];simp[an,ug]));(try simp[an,ug]);apply θ;refine W.stop ?_;refine V.Oq (γ _ _ _).here (Nat.succ_pos _) (sp:=sp) ε.spec (by rw[cf];exact id) ε.aZ (d:=if rb then -11 else -7) ⟨⟨rfl,rfl,by simp[Frame.enter],rfl⟩,OF,⟨_,rfl⟩,rfl,rfl,rfl⟩ (λih fU eg=>?_);have e9:=eg.jS.nG;rw[cf] at e9;obtain⟨f1,f2,f3,f4⟩:=e9.hw rfl;have jψ:fU.top<7:=by have:=ε.top;rw[show fU.top=sp.top by rw[<-eg.spec]];exact this
   have A1:=e9.nw;refine⟨{fU with cn:=1,nw:=fU.nw-1,sv:=if rb then 0 else 1},.ch k .own .work,?_,rfl,⟨rfl,rfl,rfl⟩,by rw[cf];exact .hacq rb,λyK _=>?_⟩
   ·cases rb<;>simp[mwd,IntKind.wrap_i32,f1,f2,f3]<;>omega
   ·rw[hj];refine V.cd (γ _ _ _) ?_;refine W.bF ?_;refine c7 ?_;refine W.exit rfl (.stop ?_);refine fin _ _ ?_;simp[an]
  refine V.cd (γ _ _ _) ?_;refine W.part (A:=[]) Υ [4] [] rfl λΘ θ=>?_;(try simp);(repeat (rw[al];simp[]));(try simp[]);apply θ;refine W.bF ?_;cases st with
  | false=>
   refine hU (υ cM (υ a4 (υ mC (υ bA OR)))) ?_;exact .stop (add true _ rfl rfl)
  | true=>
   by_cases J:ο.nw=1
   ·refine hU (υ cM (υ a4 (υ mC (υ bA (υ J OR))))) ?_;exact .stop (add true _ rfl rfl)
   ·have xV:¬(ο.nw:Int)=1:=by omega
    refine hU (υ cM (υ a4 (υ mC (υ bA (υ J xV))))) ?_;exact .stop (add false _ rfl rfl)
theorem Y4 (ε:jT x s m sp) (Ι:tD Q mn x c rest S H s k sp) {φ:Nat} (ω:Bg Q mn x c rest S H s m k sp φ) {g0:Nat} {lL:aV} (an:g0<φ) {st y:Bool} {τ:Int} :
  kr Q mn x c rest S H s m (.ch k .q .work) (some (g0,lL)) 1 (.code (ea [1,1,1,0] nn)::.code (ea [1,1,1,1] nn)::.inBlock 1::lK) [(0,.z (ptr m 0)),(2,.z (.int .i64 τ)),(3,.z (.bool st)),(8,.z (.bool y))]:=by
 letI:bp:=eX;have γ:=ε.seq;have next:∀(hl:Nat) (gj:aV) (st:Bool),hl<φ->kr Q mn x c rest S H s m (.ch k .wk .work) (some (hl,gj)) 1 (.code (ea [1,1,1,1,1] nn)::.inBlock 1::lK) [(0,.z (ptr m 0)),(2,.z (.int .i64 τ)),(3,.z (.bool st))]:=λhl gj st J=>Y3 ε Ι ω J
 refine V.cd (γ _ _ _) ?_;unfold nn sa qR nm qQ;refine c7 ?_;refine W.cy ?_;refine fw [0,1,2,3] [4] ?_;refine W.stop ?_;refine V.Yo (γ _ _ _).here (sp:=sp) ε.spec (by rw[cf];exact id) ε.aZ (vs:=[ptr m 1,.bool y,.int .i64 2]) rfl (λbk jD=>by rw[Bc jD];exact ε.still bk jD) ⟨⟨rfl,rfl,by simp[Frame.enter],rfl⟩,YV,⟨_,rfl⟩,rfl,rfl,rfl⟩ (λhl ο ν h=>by rw[cf];exact h) (λhl ο ν h=>?_);have hv:=ν.view g0 lL pH;refine⟨{ο with db:=ο.db-1},.ch k .wk .work,rfl,rfl,⟨rfl,rfl,rfl⟩,by rw[cf];exact .take h,λih eE=>?_⟩;rw[hj];refine V.cd (γ _ _ _) ?_;refine W.bF ?_;cases st with
 | true=>
  first|apply gG|apply wb|apply hy|apply wd
  refine dx λΘ θ=>?_;(try simp);(repeat (rw[al];simp[]));(try simp[]);apply θ;refine W.forget [(0,.z (ptr m 0)),(2,.z (.int .i64 τ)),(3,.z (.bool true))] ζ (.stop ?_);exact next ih _ true R
 | false=>
  first|apply gG|apply wb|apply hy|apply wd
  refine W.cy ?_;refine fw [0,1] [2,3,4,5,6,7] ?_;refine W.stop ?_;refine V.nano (γ _ _ _) (vs:=[]) ⟨⟨rfl,rfl,by simp[Frame.enter],rfl⟩,OI,⟨_,rfl⟩,rfl,rfl,rfl⟩ OO λe0=>?_;refine V.cd (γ _ _ _) ?_;refine W.part (A:=[]) Υ [3,4,5,6,7] [] rfl λΘ θ=>?_;(try simp);(repeat (rw[al];simp[]));(try simp[]);apply θ;refine W.bF ?_;refine W.forget [(0,.z (ptr m 0)),(2,.z (.int .i64 τ)),(3,.z (.bool (decide (1000000<IntKind.i64.wrap (e0-τ)))))] ζ (.stop ?_);exact next ih _ _ R
theorem Y5 (ε:jT x s m sp) (Ι:tD Q mn x c rest S H s k sp) {φ:Nat} (ω:Bg Q mn x c rest S H s m k sp φ) {g0:Nat} {lL:aV} (an:g0<φ) {w:Int} {aw st:Bool} {it τ:Int} (au:¬ga .i32 w 5=0) :
  kr Q mn x c rest S H s m (.ch k .q .work) (some (g0,lL)) 1 (.code nn::.inBlock 1::lK) (c0 m w aw st it τ):=by
 letI:bp:=eX;have γ:=ε.seq;have next:∀(τ:Int) (y:Bool),kr Q mn x c rest S H s m (.ch k .q .work) (some (g0,lL)) 1 (.code (ea [1,1,1,0] nn)::.code (ea [1,1,1,1] nn)::.inBlock 1::lK) [(0,.z (ptr m 0)),(2,.z (.int .i64 τ)),(3,.z (.bool st)),(8,.z (.bool y))]:=λτ y=>Y4 ε Ι ω an
 refine V.cd (γ _ _ _) ?_;unfold nn sa qR nm qQ;by_cases h:τ=0
 ·subst h;(repeat (first|apply gG|apply wb|apply hy|apply wd|refine aD rfl ?_|refine aA rfl ?_|(refine dx λΘ θ=>?_;simp;(repeat (rw[al];simp[c0,au]));apply θ)));refine W.cy (.stop ?_);refine V.nano (γ _ _ _) (vs:=[]) ⟨⟨rfl,rfl,by simp[Frame.enter],rfl⟩,OI,⟨_,rfl⟩,rfl,rfl,rfl⟩ OO λe0=>?_;refine V.cd (γ _ _ _) ?_;refine W.part (A:=[]) Υ [1] [] rfl λΘ θ=>?_;(try simp);(repeat (rw[al];simp[]));(try simp[]);apply θ;refine W.bF ?_
  first|apply gG|apply wb|apply hy|apply wd
  refine W.forget [(0,.z (ptr m 0)),(2,.z (.int .i64 e0)),(3,.z (.bool st)),(8,.z (.bool false))] ζ (.stop ?_);exact next e0 false
 ·(repeat (first|apply gG|apply wb|apply hy|apply wd|refine aD rfl ?_|refine aA rfl ?_|(refine dx λΘ θ=>?_;simp;(repeat (rw[al];simp[c0,au,h]));apply θ)));refine W.forget [(0,.z (ptr m 0)),(2,.z (.int .i64 τ)),(3,.z (.bool st)),(8,.z (.bool true))] (by simp[h]) (.stop ?_);exact next τ true
end
theorem OS {a b:aV} {t u:Tok} (κ:tB a t) (hb:tB b u) (h:mwd a=mwd b):a.cn=b.cn/\a.wk=b.wk/\a.sv=b.sv/\a.nw=b.nw:=by
 have:=κ.cn;have:=κ.wk;have:=κ.sv;have:=hb.cn;have:=hb.wk;have:=hb.sv;simp only[mwd] at h;omega
section
variable {Q:Value->Prop} {mn:Bool} {x:a2} {c:Frame} {rest:List Frame} {S:aL} {B:aW} {σ:List Row} {H:Α} {s m k:Nat} {sp:Spec} {v:Option (Nat×aV)} {t:Tok}
theorem Bh (ε:jT x s m sp) {ο:aV} (h:ο.toSpec=sp):ο.top<7:=by have:=ε.top;rw[show ο.top=sp.top by rw[<-h]];exact this
theorem Y6 (ε:jT x s m sp) (Ι:tD Q mn x c rest S H s k sp) {φ:Nat} {ο:aV} (ω:Bg Q mn x c rest S H s m k sp φ) (ψ:ο.toSpec=sp) {aw st:Bool} {it τ:Int} (χ:tB ο (.ch k (.act aw) .work)) (cH:st=true->aw=true) (lk:0<=it) (E3:it<=4) :
  kr Q mn x c rest S H s m (.ch k (.act aw) .work) (some (φ,ο)) 1 (.code (ea [0] sa)::.code (ea [1] sa)::.inBlock 1::lK) (c0 m (mwd ο) aw st it τ++[(7,.z (.int .i32 (pJ ο.cn ο.wk ο.sv ο.nw aw st)))]):=by
 letI:bp:=eX;have γ:=ε.seq;have uy:=OP χ;have gY:=Bh ε ψ;have ξ:=χ.cn;have hw:=χ.wk;have qH:=χ.sv;have Ζ:=χ.nw;have fh:=IJ ο.cn R ο.wk R ο.sv R ο.nw R;rw[<-pI] at fh;have fin:∀(w:Option (Nat×aV)) (env:Χ),a5 env 0=.z (ptr m 0)->kr Q mn x c rest S H s m (.ch k .own .work) w 1 [.code Bf] env:=λw env h=>ON ε Ι h;have tail:∀(g0:Nat) (lL:aV),g0<φ->¬ga .i32 (mwd ο) 5=0->kr Q mn x c rest S H s m (.ch k .q .work) (some (g0,lL)) 1 (.code nn::.inBlock 1::lK) (c0 m (mwd ο) aw st it τ):=λg0 lL an au=>Y5 ε Ι ω an au;refine V.cd (γ _ _ _) ?_;unfold sa qR nm qQ;refine W.cy ?_;refine W.part (A:=[]) Υ [0,1,2,3,4] [5] rfl λΘ θ=>?_;(try simp);(repeat (rw[al];simp[c0]));(try simp[c0]);apply θ;refine W.stop ?_;refine V.EU (γ _ _ _).here (Nat.succ_pos _) (sp:=sp) ε.spec (by rw[cf];exact id) ε.aZ ⟨⟨rfl,rfl,by simp[Frame.enter],rfl⟩,E1,⟨_,rfl⟩,rfl,rfl,rfl⟩ (λhl gj ν hv=>.inl ?_) (λhl gj ν hv=>?_)
 ·
  have qm:=ν.view φ ο pH
  have J:hl<φ:=by
   rcases Nat.lt_or_ge hl φ with h|h
   ·exact h
   ·exact absurd (by rw[qm.2 R]) hv
  unfold iP;rw[kN];refine V.cd (γ _ _ _) ?_;refine W.bF ?_;refine c7 ?_;refine aA rfl ?_;refine W.cy ?_;refine fw [0,1,2] [3,4] ?_;refine W.stop ?_;refine V.yI (γ _ _ _).here (sp:=sp) ε.spec (by rw[cf];exact id) ⟨rfl,rfl,by simp[Frame.enter],rfl⟩ rfl rfl rfl yJ rfl E2 mwd (λο w ψ bE=>bE.dT (by rw[ψ];exact ε.aZ)) (λih fU eg=>.inl ?_);have ys:=eg.view hl gj pH;have e9:=eg.jS.nG;rw[cf] at e9;unfold iP;rw[kN];refine V.cd (γ _ _ _) ?_;refine W.part (A:=[]) Υ [4] [] rfl λΘ θ=>?_;(try simp);(repeat (rw[al];simp[]));(try simp[]);apply θ;refine W.bF ?_;refine W.inBlock ?_;refine W.forget (c0 m (mwd fU) aw st it τ) (by simp[c0]) (.stop ?_);exact ω ih fU aw st it τ R eg.spec e9 cH lk E3
 ·have qm:=ν.view φ ο pH
  have jo:=ν.jS.nG;rw[cf] at jo;obtain⟨Ρ,aa,aX,ca⟩:=OS jo χ hv;by_cases Bi:ο.cn=0/\ο.sv=0
  ·refine⟨{gj with cn:=1,wk:=if aw then 0 else gj.wk},.ch k .own .work,?_,rfl,⟨rfl,rfl,rfl⟩,by rw[cf];exact .acq R R,λih eE=>?_⟩
   ·simp[pJ,pI,aa,aX,ca,Bi.1,Bi.2]
   ·rw[hj];rw[Bi.1,Bi.2] at fh;refine V.cd (γ _ _ _) ?_;refine W.bF ?_;refine c7 ?_;refine aD rfl ?_;refine hU fh ?_;refine W.exit rfl (.stop ?_);exact fin _ _ rfl
  ·have Ξ:ο.cn=1\/ο.sv=1:=by omega
   refine⟨{gj with nw:=gj.nw+1,wk:=if aw then 0 else gj.wk,sv:=if(st&&decide (ο.cn=1)) then 1 else gj.sv},.ch k .q .work,?_,rfl,⟨rfl,rfl,rfl⟩,by rw[cf];exact .queue (st&&decide (ο.cn=1)) R (λh=>by simp at h;exact⟨cH h.1,R⟩),λih eE=>?_⟩
   ·simp only[pJ,if_neg Bi,pI,Ρ,aa,aX,ca];simp
   ·rw[hj];refine V.cd (γ _ _ _) ?_;refine W.bF ?_;refine c7 ?_;refine aD rfl ?_;refine W.forget (c0 m (mwd ο) aw st it τ) (by simp[c0]) (.stop ?_);exact tail ih _ R R
theorem Y7 (ε:jT x s m sp) {φ:Nat} {aw st:Bool} {it τ:Int} {g0:Nat} {lL:aV} (lk:0<=it) (E3:it<4)
  (ω:∀(cA:Nat) (ij:aV),cA<=g0->ij.toSpec=sp->tB ij (.ch k (.act aw) .work)->kr Q mn x c rest S H s m (.ch k (.act aw) .work) (some (cA,ij)) 1 lK (c0 m (mwd ij) aw st (it+1) τ)) :
  kr Q mn x c rest S H s m (.ch k (.act aw) .work) (some (g0,lL)) 1 (.code (ea [0,0,1,0,1,0] nm)::.code (ea [0,0,1,0,1,1] nm)::.code qR::.inBlock 1::lK) [(0,.z (ptr m 0)),(2,.z (.int .i64 τ)),(3,.z (.bool st)),(4,.z (.bool aw)),(5,.z (.int .i64 it))]:=by
 letI:bp:=eX;have γ:=ε.seq;have hw:IntKind.i64.wrap (it+1)=it+1:=by simp only[IntKind.wrap_i64];omega
 refine V.cd (γ _ _ _) ?_;unfold nm qQ;refine c7 ?_;refine W.cy (.stop ?_);refine V.EX (γ _ _ _) (vs:=[]) ⟨⟨rfl,rfl,by simp[Frame.enter],rfl⟩,YU,⟨_,rfl⟩,rfl,rfl,rfl⟩ ?_;refine V.cd (γ _ _ _) ?_;refine W.bF ?_;refine c7 ?_;refine dx λΘ θ=>?_;(try simp);(repeat (rw[al];simp[hw]));(try simp[hw]);apply θ;refine c7 ?_;refine W.cy ?_;refine fw [0,1,2] [3,4] ?_;refine W.stop ?_;refine V.yI (γ _ _ _).here (sp:=sp) ε.spec (by rw[cf];exact id) ⟨rfl,rfl,by simp[Frame.enter],rfl⟩ rfl rfl rfl yJ rfl E2 mwd (λο w ψ bE=>bE.dT (by rw[ψ];exact ε.aZ)) (λih fU eg=>.inl ?_);have ys:=eg.view g0 lL pH;have e9:=eg.jS.nG;rw[cf] at e9;unfold iP;rw[kN];refine V.cd (γ _ _ _) ?_;refine W.part (A:=[]) Υ [4] [] rfl λΘ θ=>?_;(try simp);(repeat (rw[al];simp[]));(try simp[]);apply θ;refine W.bF ?_;refine W.exit rfl ?_;refine W.forget (c0 m (mwd fU) aw st (it+1) τ) (by simp[c0]) (.stop ?_);exact ω ih fU R eg.spec e9
theorem Y8 (ε:jT x s m sp) (Ι:tD Q mn x c rest S H s k sp):∀(N φ:Nat) (ο:aV) (aw st:Bool) (it τ:Int),φ*8+(4-it).toNat<N->ο.toSpec=sp->tB ο (.ch k (.act aw) .work)->(st=true->aw=true)->0<=it->it<=4->
  kr Q mn x c rest S H s m (.ch k (.act aw) .work) (some (φ,ο)) 1 (.code nm::lK) (c0 m (mwd ο) aw st it τ):=by
 letI:bp:=eX;have γ:=ε.seq;intro N
 induction N with
 | zero=>intro φ ο aw st it τ h;omega
 | succ N Bj=>
  intro φ ο aw st it τ ck ψ χ cH lk E3;have uy:=OP χ;have gY:=Bh ε ψ;have ξ:=χ.cn;have hw:=χ.wk;have qH:=χ.sv;have Ζ:=χ.nw;have fh:=IJ ο.cn R ο.wk R ο.sv R ο.nw R;have Δ:=EZ ο.cn R ο.wk R ο.sv R ο.nw R;have jI:=YM ο.cn R ο.wk R ο.sv R ο.nw R;have mC:=IM ο.cn R ο.wk R ο.sv R ο.nw R;rw[<-pI] at fh Δ mC jI;have back:∀(cA:Nat) (ij:aV) (n5 yL:Bool) (vg e0:Int),cA*8+(4-vg).toNat<N->ij.toSpec=sp->tB ij (.ch k (.act n5) .work)->(yL=true->n5=true)->0<=vg->vg<=4->
    kr Q mn x c rest S H s m (.ch k (.act n5) .work) (some (cA,ij)) 1 lK (c0 m (mwd ij) n5 yL vg e0):=λcA ij n5 yL vg e0 J U μ Ε au bd=>by
   have:=Bj cA ij n5 yL vg e0 J U μ Ε au bd;refine V.fT (γ _ _ _) rfl ?_;exact W.inLoop (.stop this)
  have eV:Bg Q mn x c rest S H s m k sp φ:=λcA ij n5 yL vg e0 J U μ Ε au bd=>back cA ij n5 yL vg e0 R U μ Ε au bd
  have new:kr Q mn x c rest S H s m (.ch k (.act aw) .work) (some (φ,ο)) 1 (.code qR::.inBlock 1::lK) (c0 m (mwd ο) aw st it τ):=by
   rw[pI];exact Y1 ε R R R R uy cH (by rw[<-pI];exact Y6 ε Ι eV ψ χ cH lk E3)
  have Bl:∀(g0:Nat) (lL:aV) (n5:Bool),it<4->(g0<=φ)->(st=true->n5=true)->kr Q mn x c rest S H s m (.ch k (.act n5) .work) (some (g0,lL)) 1 (.code (ea [0,0,1,0,1,0] nm)::.code (ea [0,0,1,0,1,1] nm)::.code qR::.inBlock 1::lK) [(0,.z (ptr m 0)),(2,.z (.int .i64 τ)),(3,.z (.bool st)),(4,.z (.bool n5)),(5,.z (.int .i64 it))]:=λg0 lL n5 J U μ=>
   Y7 ε (φ:=φ) lk J λcA ij Ρ aa aX=>back cA ij n5 st (it+1) τ R aa aX μ R R
  refine V.cd (γ _ _ _) ?_;unfold nm qQ;refine c7 ?_;by_cases b7:ο.cn=1/\ο.sv=0
  ·rw[b7.1,b7.2] at fh;refine W.cy ?_;refine W.part (A:=[]) Υ [0,1,2,3,4] [5,6] rfl λΘ θ=>?_;(try simp);(repeat (rw[al];simp[c0,fh]));(try simp[c0,fh]);apply θ;refine W.stop ?_;refine V.canSpin (γ _ _ _) ⟨⟨rfl,rfl,by simp[Frame.enter],rfl⟩,YT,⟨_,rfl⟩,rfl,rfl,rfl⟩ λy Κ=>?_;refine V.cd (γ _ _ _) ?_;refine W.part (A:=[]) Υ [6] [] rfl λΘ θ=>?_;(try simp);(repeat (rw[al];simp[c0]));(try simp[c0]);apply θ;refine W.bF ?_;cases y with
   | false=>
    refine aA rfl ?_
    first|apply gG|apply wb|apply hy|apply wd
    refine W.forget (c0 m (mwd ο) aw st it τ) (by simp[c0]) (.stop ?_);exact new
   | true=>
    have Ε:=Κ rfl;refine aD rfl ?_;refine c7 ?_;cases aw with
    | true=>
     (repeat (first|apply gG|apply wb|apply hy|apply wd|refine aD rfl ?_|refine aA rfl ?_|(refine dx λΘ θ=>?_;simp;(repeat (rw[al];simp[c0]));apply θ)));refine W.forget [(0,.z (ptr m 0)),(2,.z (.int .i64 τ)),(3,.z (.bool st)),(4,.z (.bool true)),(5,.z (.int .i64 it))] ζ (.stop ?_);exact Bl φ ο true Ε (Nat.le_refl _) (λ_=>rfl)
    | false=>
     by_cases E4:ο.wk=0
     ·by_cases rE:ο.nw=0
      ·rw[E4] at Δ;rw[rE] at mC;(repeat (first|apply gG|apply wb|apply hy|apply wd|refine aD rfl ?_|refine aA rfl ?_|(refine dx λΘ θ=>?_;simp;(repeat (rw[al];simp[c0,Δ,mC]));apply θ)));refine W.forget [(0,.z (ptr m 0)),(2,.z (.int .i64 τ)),(3,.z (.bool st)),(4,.z (.bool false)),(5,.z (.int .i64 it))] ζ (.stop ?_);exact Bl φ ο false Ε (Nat.le_refl _) cH
      ·rw[E4] at Δ;have OT:((ο.nw:Int) != 0)=true:=by simp;omega
       refine W.cy ?_;refine W.part (A:=[]) Υ [0,1,2,3,4,5,6,7,8,9,10,11,12,13,14,15,16,17,18] [19,20] rfl λΘ θ=>?_;(try simp);(repeat (rw[al];simp[c0,Δ,mC,jI,rE,OT]));(try simp[c0,Δ,mC,jI,rE,OT]);apply θ;refine W.stop ?_;refine V.EU (γ _ _ _).here (Nat.succ_pos _) (sp:=sp) ε.spec (by rw[cf];exact id) ε.aZ ⟨⟨rfl,rfl,by simp[Frame.enter],rfl⟩,E1,⟨_,rfl⟩,rfl,rfl,rfl⟩ (λhl gj ν hv=>.inl ?_) (λhl gj ν hv=>?_)
       ·have qm:=ν.view φ ο pH;unfold iP;rw[kN];refine V.cd (γ _ _ _) ?_;refine W.part (A:=[]) Υ [20] [] rfl λΘ θ=>?_;(try simp);(repeat (rw[al];simp[c0]));(try simp[c0]);apply θ;refine W.bF ?_;refine aA rfl ?_;refine c7 ?_;refine W.forget [(0,.z (ptr m 0)),(2,.z (.int .i64 τ)),(3,.z (.bool st)),(4,.z (.bool false)),(5,.z (.int .i64 it))] (by simp[c0]) (.stop ?_);exact Bl hl gj false Ε R cH
       ·have qm:=ν.view φ ο pH
        have jo:=ν.jS.nG;rw[cf] at jo;obtain⟨Ρ,aa,aX,ca⟩:=OS jo χ hv;refine⟨{gj with wk:=1},.ch k (.act true) .work,?_,rfl,⟨rfl,rfl,rfl⟩,by rw[cf];exact .R6 R R R R,λih eE=>?_⟩
        ·simp[pI,Ρ,aX,ca]
        ·rw[hj];refine V.cd (γ _ _ _) ?_;refine W.part (A:=[]) Υ [20] [] rfl λΘ θ=>?_;(try simp);(repeat (rw[al];simp[c0]));(try simp[c0]);apply θ;refine W.bF ?_;refine aD rfl ?_;refine dx λΘ θ=>?_;(try simp);(repeat (rw[al];simp[c0]));(try simp[c0]);apply θ;refine c7 ?_;refine W.forget [(0,.z (ptr m 0)),(2,.z (.int .i64 τ)),(3,.z (.bool st)),(4,.z (.bool true)),(5,.z (.int .i64 it))] (by simp[c0]) (.stop ?_);exact Bl ih _ true Ε R (λ_=>rfl)
     ·have hB:ο.wk=1:=by omega
      rw[hB] at Δ;(repeat (first|apply gG|apply wb|apply hy|apply wd|refine aD rfl ?_|refine aA rfl ?_|(refine dx λΘ θ=>?_;simp;(repeat (rw[al];simp[c0,Δ]));apply θ)));refine W.forget [(0,.z (ptr m 0)),(2,.z (.int .i64 τ)),(3,.z (.bool st)),(4,.z (.bool false)),(5,.z (.int .i64 it))] ζ (.stop ?_);exact Bl φ ο false Ε (Nat.le_refl _) cH
  ·have au:¬ga .i32 (mwd ο) 5=1:=by rw[fh];omega
   refine dx λΘ θ=>?_;(try simp);(repeat (rw[al];simp[c0,au]));(try simp[c0,au]);apply θ;refine aA rfl ?_
   first|apply gG|apply wb|apply hy|apply wd
   refine W.forget (c0 m (mwd ο) aw st it τ) (by simp[c0]) (.stop ?_);exact new
theorem Y9 (ε:jT x s m sp):OM Q mn x s m k sp:=by
 intro c rest S B σ H v Β Ι;letI:bp:=eX;have γ:=ε.seq;have head:=λφ ο aw st it τ U μ Ε au bd=>Y8 ε Ι (φ*8+(4-it).toNat+1) φ ο aw st it τ (Nat.lt_succ_self _) U μ Ε au bd;refine V.qL (z:=one _) (vs:=[ptr m 0]) Tryz.func213 rfl Β (by simp[Tryz.ntmps213]) ?_ _ rfl;refine V.cd (γ _ _ _) ?_;refine hT ?_;refine W.cy ?_;refine fw [0,1,2] [3,4] ?_;refine W.stop ?_;refine V.yI (γ _ _ _).here (sp:=sp) ε.spec (by rw[cf];exact id) ⟨rfl,rfl,by simp[Frame.enter],rfl⟩ rfl rfl rfl yJ rfl E2 mwd (λο w ψ bE=>bE.dT (by rw[ψ];exact ε.aZ)) (λih fU eg=>.inl ?_);have e9:=eg.jS.nG;rw[cf] at e9;unfold iP;rw[kN];refine V.cd (γ _ _ _) ?_;refine W.part (A:=[]) Υ [4] [] rfl λΘ θ=>?_;(try simp);(repeat (rw[al];simp[]));(try simp[]);apply θ;refine W.bF ?_;refine c7 ?_;refine W.loop ?_;refine W.forget (c0 m (mwd fU) false false 0 0) (by simp[c0]) (.stop ?_);exact head ih fU false false 0 0 eg.spec e9 (λh=>by cases h) R R
theorem Y' (ε:jT x s m sp) (Β:Holds S B σ H) (Ι:tD Q mn x c rest S H s k sp):cC Tryz.prog Q mn (bu x s (.ch k .idle .work) v 0) (Frame.enter Tryz.prog 144 #[ptr m 0] .normal) (c::rest) H:=by
 letI:bp:=eX;have γ:=ε.seq;refine V.qL (z:=one _) (vs:=[ptr m 0]) Tryz.func144 rfl Β (by simp[Tryz.ntmps144]) ?_ _ rfl;refine V.cd (γ _ _ _) ?_;refine c7 ?_;refine W.cy ?_;refine fw [0,1,2] [3] ?_;refine W.stop ?_;refine V.call (γ _ _ _) ⟨rfl,rfl,by simp[Frame.enter],rfl⟩ rfl rfl rfl ⟨_,Tryz.func175,rfl,rfl⟩ λbM bS H1 t1 pB κ π hv=>?_;obtain rfl:=nj (l:=[ptr m 0]) hv;obtain rfl:bS=[]:=dO.1 π.holds.len;rintro y rfl;refine YZ ε π.holds (Y9 ε) λcU bH L E kq jL cR iA wX=>?_;rw[iY rfl];refine cC.leave0 (γ _ _ _) rfl rfl rfl rfl Tryz.func144 rfl ?_;exact Ι cU bH L E (κ.ext.trans kq) jL cR iA wX
end
noncomputable def OU:Code:=Tryz.f215.body.getD .skip
noncomputable def IT:Code:=ea [1,1,0,1,0,0] OU
noncomputable def OV:List Item:=[.inLoop IT,.inBlock 0]
theorem Za:∀n<8,0<n->x0 .i32 (IntKind.i32.wrap (hk 0 0 0 n-8)) 2=hk 0 1 0 (n-1):=by decide +kernel
theorem Zb:∀b<2,∀c<2,∀n<8,ga .i32 (IntKind.i32.wrap (hk 0 b c n+1)) 1=1:=by decide +kernel
abbrev fp:aL:=λ_ _=>none
theorem Bm {S aF:aL} {B B':aW} {σ σ':List Row} {env:Χ} {t:Array Value} (he:∀p∈env,∃v,p.2=η.z v) (h:dv S B σ env t):dv aF B' σ' env t:=by
 intro i;have key:∀(env:Χ),(∀p∈env,∃v,p.2=η.z v)->(∃v,a5 env i=.z v)\/a5 env i=.cg:=by
  intro env
  induction env with
  | nil=>exact λ_=>.inr rfl
  | cons p l ω=>
   intro h;obtain⟨j,a⟩:=p;simp only[a5];split
   ·exact .inl (h (j,a) ζ)
   ·exact ω λq Ξ=>h q (by simp[Ξ])
 have hi:=h i;rcases key env he with⟨v,e⟩|e
 ·rw[e] at hi ⊢;generalize t.getD i undef=u at hi;cases hi;exact .z _
 ·rw[e];exact .cg _
theorem yM (H:Α):Holds fp [] [] H:=⟨λb o v h=>(by cases h),rfl,λid r bo h=>(by simp at h),λi j ew cj b gC gD _ h=>(by simp at h),λid r b N h=>(by simp at h)⟩
theorem fO.none {m nt:Nat} {S:aL} {B:aW} {H H':Α} {env:Χ} {t:Array Value} (h:fO m nt S B H [] env t) (he:∀p∈env,∃v,p.2=η.z v):fO 0 nt fp [] H' [] env t:=⟨yM H',Bm he h.cx,h.size,Nat.le_refl _⟩
section
variable {Q:Value->Prop} {mn:Bool} {x:a2} {c:Frame} {rest:List Frame} {S:aL} {B:aW} {σ:List Row} {H:Α} {s m k:Nat} {sp:Spec} {v:Option (Nat×aV)} {t:Tok}
abbrev IU (Q:Value->Prop) (mn:Bool) (x:a2) (c:Frame) (rest:List Frame) (H:Α) (s m:Nat) (w:Int) (t:Tok) (v:Option (Nat×aV)) (K:List Item) (env:Χ):Prop:=
 V Tryz.prog Q mn (one (bu x s t v 1)) (Frame.enter Tryz.prog 215 #[ptr m 0,.int .i32 w] .normal) (c::rest) 43 ⟨fp,[],H,[],0⟩ K env []
def Bn (Q:Value->Prop) (mn:Bool) (x:a2) (c:Frame) (rest:List Frame) (H:Α) (s k d:Nat):Prop:=
 ∀(v:Option (Nat×aV)) (cU:aL) (bH:Α),Ext fp [] H cU [] bH->cC Tryz.prog Q mn (bu x s (.ch k .done .work) v d) (c.finish (.tuple #[])) rest bH
theorem IV (ε:jT x s m sp) (Ι:Bn Q mn x c rest H s k 1) {w:Int} {K:List Item} {env:Χ} (e:t=.ch k .done .work):IU Q mn x c rest H s m w t v (.code .ret::K) env:=by
 letI:bp:=eX;have γ:=ε.seq;subst e;refine V.IF (γ _ _ _) rfl rfl rfl rfl Tryz.func215 rfl λbM bS H1 κ Β=>?_;obtain rfl:bS=[]:=dO.1 Β.len;rintro y rfl;exact Ι v bM H1 κ.ext
def OW (k:Nat) (ο:aV) (t:Tok):Prop:=((ο.nw=0\/ο.cn=1\/ο.wk=1\/ο.sv=1)/\t=.ch k .done .work)\/(0<ο.nw/\ο.cn=0/\ο.wk=0/\ο.sv=0/\t=.ch k .uc .work)
theorem OX (ε:jT x s m sp) (Ι:Bn Q mn x c rest H s k 1) {w:Int}:∀(N φ:Nat) (ο:aV) (t:Tok),φ<N->ο.cn<=1->ο.wk<=1->ο.sv<=1->ο.nw<7->OW k ο t->
  IU Q mn x c rest H s m w t (some (φ,ο)) (.code IT::OV) [(0,.z (ptr m 0)),(4,.z (.int .i32 (mwd ο)))]:=by
 letI:bp:=eX;have γ:=ε.seq;intro N
 induction N with
 | zero=>intro φ ο t h;omega
 | succ N Bj=>
  intro φ ο t ck ξ hw qH Ζ Ν;have re:=YJ ο.cn R ο.wk R ο.sv R ο.nw R;have mC:=IM ο.cn R ο.wk R ο.sv R ο.nw R;rw[<-pI] at re mC;have back:∀(cA:Nat) (ij:aV) (t':Tok),cA<N->ij.cn<=1->ij.wk<=1->ij.sv<=1->ij.nw<7->OW k ij t'->IU Q mn x c rest H s m w t' (some (cA,ij)) OV [(0,.z (ptr m 0)),(4,.z (.int .i32 (mwd ij)))]:=λcA ij t' J U μ Ε au bd=>by
   have:=Bj cA ij t' J U μ Ε au bd;refine V.fT (γ _ _ _) rfl ?_;exact W.inLoop (.stop this)
  refine V.cd (γ _ _ _) ?_;unfold IT OU;refine c7 ?_;rcases Ν with⟨Ν,rfl⟩|⟨J,U,μ,Ε,rfl⟩
  ·by_cases Φ:ο.nw=0
   ·rw[Φ] at mC;refine hU mC ?_;exact .stop (IV ε Ι rfl)
   ·have g7:¬ga .i32 (mwd ο) 7=0:=by rw[re];omega
    have Gg:(ga .i32 (mwd ο) 7 != 0)=true:=by simpa using g7
    refine hU (υ mC (υ Φ (υ g7 Gg))) ?_;exact .stop (IV ε Ι rfl)
  ·have Φ:¬ο.nw=0:=by omega
   have p5:¬(ο.nw:Int)=0:=R
   have E5:mwd ο=hk 0 0 0 ο.nw:=by rw[pI,U,μ,Ε]
   have zq:=Za ο.nw R J;rw[<-E5] at zq;rw[U,μ,Ε] at re;refine hU (υ mC (υ Φ (υ p5 re))) ?_;refine W.cy ?_;refine W.part (A:=[]) Υ [0,1,2,3,4] [5] rfl λΘ θ=>?_;(try simp);(repeat (rw[al];simp[zq]));(try simp[zq]);apply θ;refine W.stop ?_;refine V.EU (γ _ _ _).here (Nat.succ_pos _) (sp:=sp) ε.spec (by rw[cf];exact id) ε.aZ ⟨⟨rfl,rfl,by simp[Frame.enter],rfl⟩,E1,⟨_,rfl⟩,rfl,rfl,rfl⟩ (λhl gj ν hv=>.inl ?_) (λhl gj ν hv=>?_)
   ·have qm:=ν.view φ ο pH
    have au:hl<φ:=by
     rcases Nat.lt_or_ge hl φ with h|h
     ·exact h
     ·exact absurd (by rw[qm.2 R]) hv
    unfold iP;rw[kN];refine V.cd (γ _ _ _) ?_;refine W.bF ?_;refine aA rfl ?_;refine c7 ?_;refine W.cy ?_;refine fw [0,1,2] [3,4] ?_;refine W.stop ?_;refine V.yI (γ _ _ _).here (sp:=sp) ε.spec (by rw[cf];exact id) ⟨rfl,rfl,by simp[Frame.enter],rfl⟩ rfl rfl rfl yJ rfl (by kernel_rfl) mwd (λο w ψ bE=>bE.dT (by rw[ψ];exact ε.aZ)) (λih fU eg=>?_);have ys:=eg.view hl gj pH;have e9:=eg.jS.nG;have gY:=Bh ε eg.spec;have Ρ:=e9.cn;have aa:=e9.wk;have aX:=e9.sv;have ca:=e9.nw;by_cases uu:fU.nw=0\/fU.cn=1\/fU.wk=1\/fU.sv=1
    ·refine .inr ⟨.ch k .done .work,by rw[cf];exact .Sa uu,λyK eE=>?_⟩;rw[hj];refine V.cd (γ _ _ _) ?_;refine W.part (A:=[]) Υ [4] [] rfl λΘ θ=>?_;(try simp);(repeat (rw[al];simp[]));(try simp[]);apply θ;refine W.bF ?_;refine c7 ?_;refine W.forget [(0,.z (ptr m 0)),(4,.z (.int .i32 (mwd fU)))] ζ (.stop ?_);exact back yK fU _ R Ρ aa aX R (.inl ⟨uu,rfl⟩)
    ·refine .inl ?_;unfold iP;rw[kN];refine V.cd (γ _ _ _) ?_;refine W.part (A:=[]) Υ [4] [] rfl λΘ θ=>?_;(try simp);(repeat (rw[al];simp[]));(try simp[]);apply θ;refine W.bF ?_;refine c7 ?_;refine W.forget [(0,.z (ptr m 0)),(4,.z (.int .i32 (mwd fU)))] ζ (.stop ?_);exact back ih fU _ R Ρ aa aX R (.inr ⟨R,R,R,R,rfl⟩)
   ·have jo:=ν.jS.nG
    have gY:=Bh ε ν.spec
    have f1:=jo.cn;have f2:=jo.wk;have f3:=jo.sv;have f4:=jo.nw
    have f5:gj.cn=0/\gj.wk=0/\gj.sv=0/\gj.nw=ο.nw:=by
     rw[E5] at hv;simp only[mwd,hk] at hv;omega
    refine⟨{gj with nw:=gj.nw-1,wk:=1},.ch k .us .work,?_,rfl,⟨rfl,rfl,rfl⟩,by rw[cf];exact .R' R R R R,λih eE=>?_⟩
    ·simp[pI,f5]
    ·rw[hj];refine V.cd (γ _ _ _) ?_;refine W.bF ?_;refine aD rfl ?_;refine c7 ?_;refine W.cy ?_;refine fw [0,1,2] [3] ?_;refine W.stop ?_;refine V.Oy (γ _ _ _).here (sp:=sp) ε.spec (by rw[cf];exact id) ε.aZ (vs:=[ptr m 1,.bool false,.int .i64 2]) rfl ⟨⟨rfl,rfl,by simp[Frame.enter],rfl⟩,OJ,⟨_,rfl⟩,rfl,rfl,rfl⟩ (λyK dE sb=>?_);have jq:=sb.jS.nG;refine⟨by have:=jq.db;omega,{dE with db:=dE.db+1},.ch k .done .work,rfl,rfl,⟨rfl,rfl,rfl⟩,by rw[cf];exact .post,λBo jω=>?_⟩;rw[hj];refine V.cd (γ _ _ _) ?_;refine W.bF (.stop ?_);exact IV ε Ι rfl
theorem Zc (ε:jT x s m sp) (Ι:Bn Q mn x c rest H s k 1) {ο:aV} {φ:Nat} (ψ:ο.toSpec=sp) (E6:ο.cn=0) (wW:ο.wk<=1) (n4:ο.sv<=1) (OY:ο.nw<7)
  (Ν:(ο.sv=0/\(ο.nw=0\/ο.wk=1)/\t=.ch k .done .work)\/(ο.sv=0/\0<ο.nw/\ο.wk=0/\t=.ch k .uc .work)\/(ο.sv=1/\t=.ch k .us .work)) :
  cC Tryz.prog Q mn (bu x s t (some (φ,ο)) 1) (Frame.enter Tryz.prog 215 #[ptr m 0,.int .i32 (mwd ο)] .normal) (c::rest) H:=by
 letI:bp:=eX;have γ:=ε.seq;have dn:=Zb ο.wk R ο.sv R ο.nw R;have cM:=IK 0 R ο.wk R ο.sv R ο.nw R;have E5:mwd ο=hk 0 ο.wk ο.sv ο.nw:=by rw[pI,E6]
 rw[<-E5] at dn cM;refine V.qL (z:=one _) (vs:=[ptr m 0,.int .i32 (mwd ο)]) (S:=fp) Tryz.func215 rfl (yM H) (by simp[Tryz.ntmps215]) ?_ _ rfl;refine V.cd (γ _ _ _) ?_;rcases Ν with⟨J,U,rfl⟩|⟨J,U,μ,rfl⟩|⟨J,rfl⟩
 ·rw[J] at cM;refine hU (υ dn cM) ?_;refine W.loop ?_;refine W.forget [(0,.z (ptr m 0)),(4,.z (.int .i32 (mwd ο)))] ζ (.stop ?_);exact OX ε Ι (φ+1) φ ο _ (Nat.lt_succ_self _) R wW n4 OY (.inl ⟨U.imp id λh=>.inr (.inl h),rfl⟩)
 ·rw[J] at cM;refine hU (υ dn cM) ?_;refine W.loop ?_;refine W.forget [(0,.z (ptr m 0)),(4,.z (.int .i32 (mwd ο)))] ζ (.stop ?_);exact OX ε Ι (φ+1) φ ο _ (Nat.lt_succ_self _) R wW n4 OY (.inr ⟨U,E6,μ,J,rfl⟩)
 ·rw[J] at cM;refine hU (υ dn cM) ?_;refine W.cy ?_;refine fw [0,1,2] [3] ?_;refine W.stop ?_;refine V.Oy (γ _ _ _).here (sp:=sp) ε.spec (by rw[cf];exact id) ε.aZ (vs:=[ptr m 1,.bool true,.int .i64 2]) rfl ⟨⟨rfl,rfl,by simp[Frame.enter],rfl⟩,OJ,⟨_,rfl⟩,rfl,rfl,rfl⟩ (λhl gj ν=>?_);have jo:=ν.jS.nG;refine⟨by have:=jo.db;omega,{gj with db:=gj.db+1},.ch k .done .work,rfl,rfl,⟨rfl,rfl,rfl⟩,by rw[cf];exact .post,λih eE=>?_⟩;rw[hj];refine V.cd (γ _ _ _) ?_;refine W.bF (.stop ?_);refine V.EW (γ _ _ _) rfl rfl rfl rfl Tryz.func215 rfl λbM bS H1 κ Β=>?_;obtain rfl:bS=[]:=dO.1 Β.len;rintro y rfl;exact Ι _ bM H1 κ.ext
end
noncomputable def Bp:Code:=Tryz.f176.body.getD .skip
theorem Zd:(Tryz.prog.funcs[176]?).any (·.norace)=true:=by kernel_rfl
section
variable {Q:Value->Prop} {mn:Bool} {x:a2} {c:Frame} {rest:List Frame} {S:aL} {B:aW} {σ:List Row} {H:Α} {s m k:Nat} {sp:Spec} {v:Option (Nat×aV)} {t:Tok}
abbrev OZ (Q:Value->Prop) (mn:Bool) (x:a2) (c:Frame) (rest:List Frame) (H:Α) (s m:Nat) (t:Tok) (v:Option (Nat×aV)) (d:Nat) (K:List Item) (env:Χ):Prop:=
 V Tryz.prog Q mn (one (bu x s t v d)) (Frame.enter Tryz.prog 176 #[ptr m 0] .normal) (c::rest) 21 ⟨fp,[],H,[],0⟩ K env []
theorem O0 {aF:aL} {H H':Α} (h:Ext fp [] H aF [] H'):Ext fp [] H fp [] H':=
 ⟨λb o v h=>(by cases h),λb hb Τ=>h.fV b hb Τ,λb hb=>h.blocks b hb,λb o v h=>(by cases h),h.grow⟩
theorem O1 (ε:jT x s m sp) (Ι:Bn Q mn x c rest H s k 0) {env:Χ}:OZ Q mn x c rest H s m (.ch k .done .work) v 1 [.code (ea [1,1,1] Bp)] env:=by
 letI:bp:=eX;have γ:=ε.seq;refine V.cd (γ _ _ _) ?_;unfold Bp;refine W.cy (.stop ?_);refine V.enable (γ _ _ _).here (Nat.succ_pos _) ⟨⟨rfl,rfl,by simp[Frame.enter],rfl⟩,vd,⟨_,rfl⟩,rfl,rfl,rfl⟩ ?_;rw[Bb];refine V.cd (γ _ _ _) ?_;refine W.bF (.stop ?_);refine V.EW (γ _ _ _) rfl rfl rfl rfl Tryz.func176 rfl λbM bS H1 κ Β=>?_;obtain rfl:bS=[]:=dO.1 Β.len;rintro y rfl;exact Ι _ bM H1 κ.ext
theorem Ze (ε:jT x s m sp) (Β:Holds S B σ H) {L:List Nat}
  (di:∀(aF:aL) (H':Α),Ext S [] H aF [] H'->Holds aF [] [] H'->∃H1 E,Split H' H1 E/\sp.ar (L++[k]) E/\Bn Q mn x c rest H1 s k 0) :
  cC Tryz.prog Q mn (bu x s (.ch k (.dr L) .work) v 0) (Frame.enter Tryz.prog 176 #[ptr m 0] .normal) (c::rest) H:=by
 letI:bp:=eX;have γ:=ε.seq;refine V.qL (z:=one _) (vs:=[ptr m 0]) Tryz.func176 rfl Β (by simp[Tryz.ntmps176]) ?_ _ rfl;refine V.cd (γ _ _ _) ?_;refine c7 ?_;refine aD rfl ?_;refine c7 ?_;refine W.cy ?_;refine fw [0,1,2] [3] ?_;refine W.stop ?_;refine V.yI (γ _ _ _).here (sp:=sp) ε.spec (by rw[cf];exact id) ⟨rfl,rfl,by simp[Frame.enter],rfl⟩ rfl rfl rfl yJ rfl Zd mwd (λο w ψ bE=>bE.dT (by rw[ψ];exact ε.aZ)) (λhl gj sc=>.inl ?_);unfold iP;rw[kN];refine V.cd (γ _ _ _) ?_;refine W.bF ?_;refine c7 ?_;refine W.forget [(0,.z (ptr m 0))] ζ ?_;refine W.cy ?_;refine fw [0] [1,2] ?_;refine W.stop ?_;refine V.conv (γ _ _ _).here (sp:=sp) ε.spec (by rw[cf];exact id) ⟨rfl,rfl,by simp[Frame.enter],rfl⟩ rfl rfl rfl IN ve IP rfl (λο w ψ bE=>⟨_,bE.dT (by rw[ψ];exact ε.aZ)⟩) (λφ ο ν=>?_);unfold iP;rw[kN];refine V.GD ε.rel rfl (sp:=sp) (L:=L) ε.spec ε.aZ cf ⟨⟨rfl,rfl,by simp[Frame.enter],rfl⟩,OD,⟨_,rfl⟩,rfl,rfl,rfl⟩ λbM bS H1 t1 κ π=>?_;obtain rfl:bS=[]:=dO.1 π.holds.len;obtain⟨bH,E,Ρ,aa,aX⟩:=di bM H1 κ.ext π.holds;refine⟨bH,E,Ρ,aa,?_⟩;rw[hj];refine V.here (x:=one _) (S:=fp) (B:=[]) (σ:=[]) (m:=0) (nt:=21) ?_ (π.none ζ) _ rfl;refine V.cd (γ _ _ _) ?_;refine W.bF ?_;refine c7 ?_;refine W.cy (.stop ?_);refine V.disable (γ _ _ _).here ⟨⟨rfl,rfl,by simp[Frame.enter],rfl⟩,Be,⟨_,rfl⟩,rfl,rfl,rfl⟩ ?_;rw[Ba];refine V.cd (γ _ _ _) ?_;refine W.bF ?_;refine c7 ?_;refine W.cy ?_;refine fw [0,1,2] [3,4] ?_;refine W.stop ?_;refine V.Oq (γ _ _ _).here (Nat.succ_pos _) (sp:=sp) ε.spec (by rw[cf];exact id) ε.aZ ⟨⟨rfl,rfl,by simp[Frame.enter],rfl⟩,OF,⟨_,rfl⟩,rfl,rfl,rfl⟩ (λyK dE sb=>?_);have jq:=sb.jS.nG;rw[cf] at jq;have E6:=jq.hold rfl;have gY:=Bh ε sb.spec;have f1:=jq.wk;have f2:=jq.sv;have f3:=jq.nw;have O2:mwd {dE with cn:=0}=IntKind.i32.wrap (mwd dE+-1):=by simp only[mwd,IntKind.wrap_i32,E6];omega
 have go:∀(t:Tok) (cA:Nat),(dE.sv=0/\(dE.nw=0\/dE.wk=1)/\t=.ch k .done .work)\/(dE.sv=0/\0<dE.nw/\dE.wk=0/\t=.ch k .uc .work)\/(dE.sv=1/\t=.ch k .us .work)->
   OZ Q mn x c rest bH s m t (some (cA,{dE with cn:=0})) 1 [.code (ea [1,1,0] Bp),.code (ea [1,1,1] Bp)] [(0,.z (ptr m 0)),(2,.z (.int .i32 (mwd {dE with cn:=0})))]:=λt cA Ν=>by
  refine V.cd (γ _ _ _) ?_;unfold Bp;refine c7 ?_;by_cases Φ:mwd {dE with cn:=0}=0
  ·refine hU Φ ?_;have Zf:t=.ch k .done .work:=by
    simp only[mwd] at Φ;rcases Ν with⟨_,_,h⟩|⟨_,h,_⟩|⟨h,_⟩
    ·exact h
    ·omega
    ·omega
   subst Zf;exact .stop (O1 ε aX)
  ·have p5:(mwd {dE with cn:=0} != 0)=true:=by simpa using Φ
   refine hU (υ Φ p5) ?_;refine W.cy ?_;refine fw [0,1] [2] ?_;refine W.stop ?_;refine V.call (γ _ _ _) ⟨rfl,rfl,by simp[Frame.enter],rfl⟩ rfl rfl rfl ⟨_,Tryz.func215,rfl,rfl⟩ λkm pC kn t4 Zg tp qD IW=>?_;obtain rfl:=nj (l:=[ptr m 0,.int .i32 (mwd {dE with cn:=0})]) IW;obtain rfl:pC=[]:=dO.1 qD.holds.len;rintro y rfl;refine Zc ε (λjΑ jg ie Bq=>?_) (by exact sb.spec) rfl f1 f2 (by show dE.nw<7;omega) Ν;rw[iY rfl];have E7:Ext fp [] bH fp [] ie:=(O0 tp.ext).trans (O0 Bq);refine V.here (x:=one _) (S:=fp) (B:=[]) (σ:=[]) (m:=0) (nt:=21) ?_ ((qD.put (a:=oP) rfl (.z _)).none ζ) _ rfl;refine V.cd (γ _ _ _) ?_;refine W.bF (.stop ?_);exact O1 ε λv6 IX IY bd=>aX v6 IX IY (E7.trans bd)
 by_cases n4:dE.sv=1
 ·refine⟨{dE with cn:=0},.ch k .us .work,O2,rfl,⟨rfl,rfl,rfl⟩,by rw[cf];exact .R9 n4,λBo _=>?_⟩;rw[hj];refine V.cd (γ _ _ _) ?_;refine W.part (A:=[]) Υ [4] [] rfl λΘ θ=>?_;(try simp);(repeat (rw[al];simp[]));(try simp[]);apply θ;refine W.bF ?_
  first|apply gG|apply wb|apply hy|apply wd
  refine W.forget [(0,.z (ptr m 0)),(2,.z (.int .i32 (mwd {dE with cn:=0})))] ζ (.stop ?_);exact go _ Bo (.inr (.inr ⟨n4,rfl⟩))
 ·have iz:dE.sv=0:=by omega
  have step:∀(t:Tok),(dE.sv=0/\(dE.nw=0\/dE.wk=1)/\t=.ch k .done .work)\/(dE.sv=0/\0<dE.nw/\dE.wk=0/\t=.ch k .uc .work)->Act dE (.ch k .fin .work) {dE with cn:=0} t->∃o' t',mwd o'=IntKind.i32.wrap (mwd dE+-1)/\o'.db=dE.db/\yH dE o'/\Act dE (.ch k .fin .work) o' t'/\((dE.sv=0/\(dE.nw=0\/dE.wk=1)/\t'=.ch k .done .work)\/(dE.sv=0/\0<dE.nw/\dE.wk=0/\t'=.ch k .uc .work))/\o'={dE with cn:=0}:=λt J U=>⟨_,t,O2,rfl,⟨rfl,rfl,rfl⟩,U,J,rfl⟩;obtain⟨o',t',eP,du,gd,oA,uK,rfl⟩:∃o' t',mwd o'=IntKind.i32.wrap (mwd dE+-1)/\o'.db=dE.db/\yH dE o'/\Act dE (.ch k .fin .work) o' t'/\((dE.sv=0/\(dE.nw=0\/dE.wk=1)/\t'=.ch k .done .work)\/(dE.sv=0/\0<dE.nw/\dE.wk=0/\t'=.ch k .uc .work))/\o'={dE with cn:=0}:=by
   by_cases Ζ:dE.nw=0\/dE.wk=1
   ·exact step _ (.inl ⟨iz,Ζ,rfl⟩) (.R7 iz Ζ)
   ·exact step _ (.inr ⟨iz,R,R,rfl⟩) (.R8 iz R R)
  refine⟨_,t',eP,du,gd,by rw[cf];exact oA,λBo _=>?_⟩;rw[hj];refine V.cd (γ _ _ _) ?_;refine W.part (A:=[]) Υ [4] [] rfl λΘ θ=>?_;(try simp);(repeat (rw[al];simp[]));(try simp[]);apply θ;refine W.bF ?_
  first|apply gG|apply wb|apply hy|apply wd
  refine W.forget [(0,.z (ptr m 0)),(2,.z (.int .i32 (mwd {dE with cn:=0})))] ζ (.stop ?_);exact go _ Bo (uK.imp id λh=>.inl h)
theorem cC.leaveD [bp] {P:Program} {Q:Value->Prop} {mn:Bool} {x:a2} {c b:Frame} {rest:List Frame} {H:Α} {t:Array Value} {ops:Array Oper} {fn:Func} (γ:Seq (one x)) (hb:b.mode=.run) (cu:b.roundOf=none) (eV:b.defers=[]) (g6:b.kind=.deferred) (bL:P.funcs[b.fn]?=some fn) (fc:fn.results=#[])
  (qS:c.mode=.returning) (h:cC P Q mn x c rest H):cC P Q mn x (ax b t [.inRegion ops []]) (c::rest) H:=by
 refine aU.bF (x:=one x) γ hb (.sM γ hb cu (.G1 γ rfl eV g6 bL ?_)) x rfl;rw[results_none fc];refine ς.pure' ?_;simp only[qS];intro y Κ;cases Κ;exact h
theorem Zh (ε:jT x s m sp) (Β:Holds S B σ H) (qS:c.mode=.returning) {L:List Nat}
  (di:∀(aF:aL) (H':Α),Ext S [] H aF [] H'->Holds aF [] [] H'->∃H1 E,Split H' H1 E/\sp.ar (L++[k]) E/\∀(v:Option (Nat×aV)) (cU:aL) (bH:Α),Ext fp [] H1 cU [] bH->cC Tryz.prog Q mn (bu x s (.ch k .done .work) v 0) c rest bH) :
  cC Tryz.prog Q mn (bu x s (.ch k (.dr L) .work) v 0) (Frame.enter Tryz.prog 145 #[ptr m 0] .deferred) (c::rest) H:=by
 letI:bp:=eX;have γ:=ε.seq;rw[qB (body:=Tryz.f145.body.getD .skip) Tryz.func145 rfl];refine V.here (x:=one _) (m:=0) (nt:=6) (env:=entry 0 [.z (ptr m 0)]) ?_ (fO.enter Β.bare ⟨rfl,λi a v J U=>?_⟩ (Nat.le_refl _) ζ) _ rfl
 ·refine V.fT (γ _ _ _) rfl ?_;simp only[Tryz.f145,Option.getD_some];refine c7 ?_;refine W.cy ?_;refine fw [0,1,2] [3] ?_;refine W.stop ?_;refine V.call (γ _ _ _) ⟨rfl,rfl,by simp[Frame.enter],rfl⟩ rfl rfl rfl ⟨_,Tryz.func176,rfl,rfl⟩ λbM bS H1 t1 pB κ π hv=>?_;obtain rfl:=nj (l:=[ptr m 0]) hv;obtain rfl:bS=[]:=dO.1 π.holds.len;rintro y rfl;refine Ze ε π.holds (L:=L) λcU bH kq jL=>?_;obtain⟨jR,E,Ρ,aa,aX⟩:=di cU bH (κ.ext.trans kq) jL;refine⟨jR,E,Ρ,aa,λv4 km kn oS=>?_⟩;rw[iY rfl];refine cC.leaveD (γ _ _ _) rfl rfl rfl rfl Tryz.func145 rfl qS ?_;exact aX v4 km kn oS
 ·cases i with
  | zero=>simp at J U;subst J;subst U;exact .z _
  | succ i=>simp at J
end
structure mD (x:a2) (s:Nat) (sp:Spec):Prop where
 rel:x.rel=false
 aN:x.aN=λ_=>none
 spec:x.spec s=some sp
 top:sp.top<7
 still:∀bk,bk≠s->nF (x.tok bk)
theorem mD.seq {x:a2} {s:Nat} {sp:Spec} (h:mD x s sp):∀t v d,@Seq eX (one (bu x s t v d)):=λt v d=>@Seq.vb eX _ trivial h.rel h.aN
abbrev iF (c w:Nat):Int:=(c:Int)*4294967296+w
theorem E8:∀c<8,∀w<2,ga .u64 (iF c w) 2147483648=0:=by decide +kernel
theorem E9:∀c<8,∀w<2,IntKind.i32.wrap ((iF c w).fdiv (2 ^ min 32 IntKind.u64.bits))=c:=by decide +kernel
theorem Fa:∀c<8,∀w<2,IntKind.u32.wrap (ga .u64 (iF c w) 2147483647)=w:=by decide +kernel
theorem Zi:∀c<7,∀w<2,IntKind.u64.wrap (iF c w+4294967296)=iF (c+1) w:=by decide +kernel
theorem Zj:∀c<8,∀w<2,0<c->IntKind.u64.wrap (iF c w+18446744069414584320)=iF (c-1) w:=by decide +kernel
theorem Zk:∀c<8,IntKind.u64.wrap (iF c 0+1)=iF c 1:=by decide +kernel
theorem O3:IntKind.u64.wrap 1=1:=br
theorem O4:IntKind.u64.wrap (2 ^ min 32 IntKind.u64.bits)=4294967296:=br
theorem IZ:IntKind.i32.wrap 1=1:=br
theorem vh (ο:aV):cT ο=iF ο.cnt ο.wt:=rfl
section
variable {Q:Value->Prop} {mn:Bool} {x:a2} {c:Frame} {rest:List Frame} {S:aL} {B:aW} {σ:List Row} {H:Α} {s k:Nat} {sp:Spec} {v:Option (Nat×aV)} {t:Tok}
theorem Fb (ε:mD x s sp) {ο:aV} (h:ο.toSpec=sp):ο.top<7:=by have:=ε.top;rw[show ο.top=sp.top by rw[<-h]];exact this
def yN (Q:Value->Prop) (mn:Bool) (x:a2) (c:Frame) (rest:List Frame) (S:aL) (H:Α) (r:Value):Prop:=
 ∀(aF:aL) (H':Α),Ext S [] H aF [] H'->Holds aF [] [] H'->cC Tryz.prog Q mn x (c.finish r) rest H'
theorem Zl (ε:mD x s sp) (c5:¬gk t) {d:Int} (Β:Holds S B σ H)
  (dD:∀φ ο,Seen (bu x s t v 1) s sp φ ο->∃o' t',cT o'=IntKind.u64.wrap (cT ο+d)/\o'.cP=ο.cP/\r9 ο o'/\Act ο t o' t'/\∀cA,cA<φ->yN Q mn (bu x s t' (some (cA,o')) 1) c rest S H (.int .u64 (cT o'))) :
  cC Tryz.prog Q mn (bu x s t v 1) (Frame.enter Tryz.prog 166 #[ptr s 0,.int .u64 d] .normal) (c::rest) H:=by
 letI:bp:=eX;have γ:=ε.seq;refine V.qL (z:=one _) (vs:=[ptr s 0,.int .u64 d]) Tryz.func166 rfl Β (by simp[Tryz.ntmps166]) ?_ _ rfl;refine V.cd (γ _ _ _) ?_;refine hT ?_;refine W.cy ?_;refine fw [0,1,2,3] [4,5] ?_;refine W.stop ?_;refine V.IE (γ _ _ _).here (Nat.succ_pos _) (sp:=sp) ε.spec (by rw[cf];exact c5) ⟨⟨rfl,rfl,by simp[Frame.enter],rfl⟩,OG,⟨_,rfl⟩,rfl,rfl,rfl⟩ (λφ ο ν=>?_);obtain⟨o',t',J,U,μ,Ε,au⟩:=dD φ ο ν;refine⟨o',t',J,U,μ,by rw[cf];exact Ε,λcA eE=>?_⟩;rw[hj];refine V.cd (γ _ _ _) ?_;refine W.part (A:=[]) Υ [5] [] rfl λΘ θ=>?_;(try simp);(repeat (rw[al];simp[]));(try simp[]);apply θ;refine W.bF (.stop ?_);refine V.tz (γ _ _ _) rfl rfl rfl rfl Tryz.func166 rfl rfl λbM bS H1 κ j7=>?_;obtain rfl:bS=[]:=dO.1 j7.len;rintro y rfl;exact au cA eE bM H1 κ.ext j7
theorem I0 (ε:mD x s sp) (c5:¬gk t) (Β:Holds S B σ H)
  (dD:∀φ ο,Seen (bu x s t v 1) s sp φ ο->yN Q mn (bu x s t (some (φ,ο)) 1) c rest S H (.int .u64 (cT ο))\/∃t',Act ο t ο t'/\∀cA,cA<φ->yN Q mn (bu x s t' (some (cA,ο)) 1) c rest S H (.int .u64 (cT ο))) :
  cC Tryz.prog Q mn (bu x s t v 1) (Frame.enter Tryz.prog 168 #[ptr s 0] .normal) (c::rest) H:=by
 letI:bp:=eX;have γ:=ε.seq;refine V.qL (z:=one _) (vs:=[ptr s 0]) Tryz.func168 rfl Β (by simp[Tryz.ntmps168]) ?_ _ rfl;refine V.cd (γ _ _ _) ?_;refine hT ?_;refine W.cy ?_;refine fw [0,1,2] [3,4] ?_;refine W.stop ?_;refine V.ID (γ _ _ _).here (Nat.succ_pos _) (sp:=sp) ε.spec (by rw[cf];exact c5) ⟨⟨rfl,rfl,by simp[Frame.enter],rfl⟩,OH,⟨_,rfl⟩,rfl,rfl,rfl⟩ (λφ ο ν=>(dD φ ο ν).imp (λh=>?_) (λ⟨t',Ε,au⟩=>⟨t',by rw[cf];exact Ε,λcA eE=>?_⟩))
 ·unfold iP;rw[kN];refine V.cd (γ _ _ _) ?_;refine W.part (A:=[]) Υ [4] [] rfl λΘ θ=>?_;(try simp);(repeat (rw[al];simp[]));(try simp[]);apply θ;refine W.bF (.stop ?_);refine V.tz (γ _ _ _) rfl rfl rfl rfl Tryz.func168 rfl rfl λbM bS H1 κ j7=>?_;obtain rfl:bS=[]:=dO.1 j7.len;rintro y rfl;exact h bM H1 κ.ext j7
 ·rw[hj];refine V.cd (γ _ _ _) ?_;refine W.part (A:=[]) Υ [4] [] rfl λΘ θ=>?_;(try simp);(repeat (rw[al];simp[]));(try simp[]);apply θ;refine W.bF (.stop ?_);refine V.tz (γ _ _ _) rfl rfl rfl rfl Tryz.func168 rfl rfl λbM bS H1 κ j7=>?_;obtain rfl:bS=[]:=dO.1 j7.len;rintro y rfl;exact au cA eE bM H1 κ.ext j7
theorem Zm (ε:mD x s sp) (c5:¬gk t) (Β:Holds S B σ H) {old new:Int}
  (A':∀φ ο,Seen (bu x s t v 1) s sp φ ο->¬cT ο=old->yN Q mn (bu x s t (some (φ,ο)) 1) c rest S H (.bool false))
  (dD:∀φ ο,Seen (bu x s t v 1) s sp φ ο->cT ο=old->∃o' t',cT o'=new/\o'.cP=ο.cP/\r9 ο o'/\Act ο t o' t'/\∀cA,cA<φ->yN Q mn (bu x s t' (some (cA,o')) 1) c rest S H (.bool true)) :
  cC Tryz.prog Q mn (bu x s t v 1) (Frame.enter Tryz.prog 179 #[ptr s 0,.int .u64 old,.int .u64 new] .normal) (c::rest) H:=by
 letI:bp:=eX;have γ:=ε.seq;refine V.qL (z:=one _) (vs:=[ptr s 0,.int .u64 old,.int .u64 new]) Tryz.func179 rfl Β (by simp[Tryz.ntmps179]) ?_ _ rfl;refine V.cd (γ _ _ _) ?_;refine hT ?_;refine W.cy ?_;refine fw [0,1,2,3,4] [5,6] ?_;refine W.stop ?_;refine V.Yn (γ _ _ _).here (Nat.succ_pos _) (sp:=sp) ε.spec (by rw[cf];exact c5) ⟨⟨rfl,rfl,by simp[Frame.enter],rfl⟩,YR,⟨_,rfl⟩,rfl,rfl,rfl⟩ (λφ ο ν hv=>?_) (λφ ο ν hv=>?_)
 ·have h:=A' φ ο ν hv;unfold iP;rw[kN];refine V.cd (γ _ _ _) ?_;refine W.part (A:=[]) Υ [6] [] rfl λΘ θ=>?_;(try simp);(repeat (rw[al];simp[]));(try simp[]);apply θ;refine W.bF (.stop ?_);refine V.tz (γ _ _ _) rfl rfl rfl rfl Tryz.func179 rfl rfl λbM bS H1 κ j7=>?_;obtain rfl:bS=[]:=dO.1 j7.len;rintro y rfl;exact h bM H1 κ.ext j7
 ·obtain⟨o',t',J,U,μ,Ε,au⟩:=dD φ ο ν hv;refine⟨o',t',J,U,μ,by rw[cf];exact Ε,λcA eE=>?_⟩;rw[hj];refine V.cd (γ _ _ _) ?_;refine W.part (A:=[]) Υ [6] [] rfl λΘ θ=>?_;(try simp);(repeat (rw[al];simp[]));(try simp[]);apply θ;refine W.bF (.stop ?_);refine V.tz (γ _ _ _) rfl rfl rfl rfl Tryz.func179 rfl rfl λbM bS H1 κ j7=>?_;obtain rfl:bS=[]:=dO.1 j7.len;rintro y rfl;exact au cA eE bM H1 κ.ext j7
end
theorem fO.gp {m nt:Nat} {S aF:aL} {B:aW} {H H':Α} {env:Χ} {t:Array Value} (h:fO m nt S B H [] env t) (he:∀p∈env,∃v,p.2=η.z v) (Β:Holds aF [] [] H'):fO 0 nt aF [] H' [] env t:=⟨Β,Bm he h.cx,h.size,Nat.le_refl _⟩
theorem cC.I1 [bp] {P:Program} {Q:Value->Prop} {mn:Bool} {x:a2} {c b:Frame} {rest:List Frame} {H:Α} {t:Array Value} {k:List Item} {fn:Func} {f:FuncId} (γ:Seq (one x)) (h4:Seq (one {x with deaf:=x.deaf-1})) (hd:0<x.deaf) (hb:b.mode=.run) (cu:b.roundOf=none) (eV:b.defers=[Go.Conc.dcall f #[]]) (g6:b.kind=.normal) (bL:P.funcs[b.fn]?=some fn) (fc:fn.results=#[])
  (he:Entry P f (λ_=>do mark .enable;pure Extern.Race.none_)) (h:cC P Q mn {x with deaf:=x.deaf-1} (c.finish (.tuple #[])) rest H):cC P Q mn x (ax b t (.code .ret::k)) (c::rest) H:=by
 refine aU.ret (x:=one x) γ hb cu (λy Κ=>?_) x rfl;cases Κ;refine cC.Yt γ.here hd hb cu eV he ?_;refine aU.back (f:={ax {b with defers:=[]} t (.code .ret::k) with mode:=.returning}) (x:=one {x with deaf:=x.deaf-1}) h4 rfl rfl (.inl g6) bL ?_ _ rfl;rw[results_none fc];refine ς.pure' (λy Κ=>?_);cases Κ;exact h
section
variable {Q:Value->Prop} {mn:Bool} {x:a2} {c:Frame} {rest:List Frame} {S:aL} {B:aW} {σ:List Row} {H:Α} {s n p:Nat} {sp:Spec} {v:Option (Nat×aV)} {t:Tok}
theorem Zn (ε:mD x s sp) (Ζ:n<sp.top) (Β:Holds S B σ H)
  (Ι:∀v,yN Q mn (bu x s (.par (n+1) (p+1) .add) v 0) c rest S H (.tuple #[])) :
  cC Tryz.prog Q mn (bu x s (.par n p .add) v 0) (Frame.enter Tryz.prog 140 #[ptr s 0,.int .i64 1] .normal) (c::rest) H:=by
 letI:bp:=eX;have γ:=ε.seq;refine V.qL (z:=one _) (vs:=[ptr s 0,.int .i64 1]) Tryz.func140 rfl Β (by simp[Tryz.ntmps140]) ?_ _ rfl;refine V.cd (γ _ _ _) ?_;refine hT ?_;refine W.cy (.stop ?_);refine V.disable (γ _ _ _).here ⟨⟨rfl,rfl,by simp[Frame.enter],rfl⟩,Be,⟨_,rfl⟩,rfl,rfl,rfl⟩ ?_;rw[Ba];refine V.cd (γ _ _ _) ?_;refine W.bF ?_;refine c7 ?_;refine W.cy (.stop ?_);refine V.IG (γ _ _ _) ⟨rfl,rfl,by simp[Frame.enter],rfl⟩ rfl rfl rfl ?_;refine V.cd (γ _ _ _) ?_;refine W.bF ?_;refine hT ?_;refine W.cy (.stop ?_);refine V.EX (γ _ _ _) (vs:=[]) ⟨⟨rfl,rfl,by simp[Frame.enter],rfl⟩,OE,⟨_,rfl⟩,rfl,rfl,rfl⟩ ?_;refine V.cd (γ _ _ _) ?_;refine W.bF ?_;refine hT ?_;refine W.cy ?_;refine W.part (A:=[]) Υ [0,1,2,3,4,5] [6,7] rfl λΘ θ=>?_;(try simp);(repeat (rw[al];simp[O3,O4]));(try simp[O3,O4]);apply θ;refine W.stop ?_;refine V.call (γ _ _ _) ⟨rfl,rfl,by simp[Frame.enter],rfl⟩ rfl rfl rfl ⟨_,Tryz.func166,rfl,rfl⟩ λbM bS H1 t1 pB κ π hv=>?_;obtain rfl:=nj (l:=[ptr s 0,.int .u64 4294967296]) hv;obtain rfl:bS=[]:=dO.1 π.holds.len;rintro y rfl;refine Zl ε id π.holds λφ ο ν=>?_;have χ:=ν.jS.tC;rw[cf] at χ;obtain⟨Ρ,aa,aX,ca,gf⟩:=χ.add n p rfl;have gY:=Fb ε ν.spec;have rz:n<ο.top:=by rw[show ο.top=sp.top by rw[<-ν.spec]];exact Ζ
 have small:∀a b c d:Nat,a=b+1->b<=c->c<d->d<7->a<8/\b<7/\0<a/\¬a=0:=λa b c d J U μ Ε=>R;obtain⟨cc,mc⟩:=aK (ο.cnt+1);obtain⟨k1,cp,qj,jΒ⟩:=small cc ο.cnt n ο.top mc gf rz gY;have rn:cT {ο with cnt:=cc}=iF cc 0:=by rw[vh];simp only[Ρ]
 refine⟨{ο with cnt:=cc},.par (n+1) (p+1) .add,?_,rfl,⟨rfl,rfl,rfl⟩,by rw[mc];exact .add rz,λcA eE cU bH kq jL=>?_⟩
 ·rw[rn,vh,Ρ,Zi ο.cnt cp 0 br,mc]
 have f1:=E8 cc k1 0 br
 have f2:=E9 cc k1 0 br
 have f3:=Fa cc k1 0 br;rw[rn];generalize iF cc 0=w at f1 f2 f3;rw[iY rfl];refine V.here (x:=one _) (m:=0) (nt:=117) ?_ ((π.put (a:=.z (.int .u64 w)) rfl (.z _)).gp ζ jL) _ rfl;have fin:∀(v:Option (Nat×aV)) (env:Χ) (K:List Item),V Tryz.prog Q mn (one (bu x s (.par (n+1) (p+1) .add) v 1)) {Frame.enter Tryz.prog 140 #[ptr s 0,.int .i64 1] .normal with defers:=[Go.Conc.dcall 161 #[]]} (c::rest) 117 ⟨cU,[],bH,[],0⟩ (.code .ret::K) env []:=λv env K k3 k4 jR t3 hX fC=>by
  rintro y rfl;obtain rfl:k4=[]:=dO.1 fC.holds.len;exact cC.I1 (γ _ _ _) (γ _ _ 0) (Nat.succ_pos _) rfl rfl rfl rfl Tryz.func140 rfl vd (Ι v k3 jR ((κ.ext.trans kq).trans hX.ext) fC.holds)
 refine V.cd (γ _ _ _) ?_;refine W.part (A:=[]) Υ [7] [] rfl λΘ θ=>?_;(try simp);(repeat (rw[al];simp[]));(try simp[]);apply θ;refine W.bF ?_;by_cases J:cc=1
 ·refine hU (υ f1 (υ f2 (υ f3 (υ @IZ J)))) ?_;refine W.cy ?_;refine fw [0,1,2] [3,4] ?_;refine W.stop ?_;refine V.conv (γ _ _ _).here (sp:=sp) ε.spec (by rw[cf];exact id) ⟨rfl,rfl,by simp[Frame.enter],rfl⟩ rfl rfl rfl OK ve OL rfl (λο w ψ bE=>⟨_,bE.Ρ⟩) (λφ ο ν=>?_);unfold iP;rw[kN];refine V.Yl ε.rel cf ζ ⟨⟨rfl,rfl,by simp[Frame.enter],rfl⟩,YP,⟨_,rfl⟩,rfl,rfl,rfl⟩ ?_;refine V.cd (γ _ _ _) ?_;refine W.bF ?_;refine hU (υ f1 (υ f2 (υ f3 (υ @IZ J)))) ?_;exact .stop (fin _ _ _)
 ·have xV:¬(cc:Int)=1:=λh=>J (by exact_mod_cast h);refine hU (υ f1 (υ f2 (υ f3 (υ @IZ (υ J (υ xV qj)))))) ?_;exact .stop (fin _ _ _)
end
end Go.TL
