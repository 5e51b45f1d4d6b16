import Derived.Test.YtlabjopijpkiaaaGreatQAV
set_option maxHeartbeats 16000000
set_option maxRecDepth 20000
set_option linter.unusedSectionVars false
set_option linter.unusedSimpArgs false
set_option linter.unusedVariables false
namespace Go.TL
open Go.Conc Go.Proofs
open Go.ConcN (sumTo upd sumTo_upd upd_ne upd_same sumTo_congr le_sumTo)
structure ig (x:aK) (s m:Nat) (sp:Spec):Prop where
 rel:x.rel=false
 ao:x.ao=λ_=>none
 spec:x.spec s=some sp
 aI:sp.aI=some m
 top:sp.top<7
 still:∀a7,a7≠s->lU (x.tok a7)
theorem ig.seq {x:aK} {s m:Nat} {sp:Spec} (h:ig x s m sp):∀t v d,@Seq ev (one (bb x s t v d)):=λt v d=>@Seq.ss ev _ trivial h.rel h.ao
theorem b4.Vk [bh] {P:Program} {Q:Value->Prop} {mn:Bool} {x:aK} {c b:Frame} {rest:List Frame} {H:υ} {t:Array Value} {ops:Array Oper} {k:List Item} {fn:Func} (U:Seq (one x)) (hb:b.mode=.run) (bZ:b.roundOf=none) (eh:b.defers=[]) (fW:b.kind=.normal) (cA:P.funcs[b.fn]?=some fn) (eB:fn.results=#[])
  (h:b4 P Q mn x (c.finish (.tuple #[])) rest H):b4 P Q mn x (ai b t (.inRegion ops []::.code .ret::k)) (c::rest) H:=by
 refine aB.bm (x:=one x) U hb (.ret U hb bZ (.back U rfl eh (.inl fW) cA ?_)) x rfl;rw[results_none eB];exact π.pure' (λy ad=>by cases ad;exact h)
abbrev ptr (b o:Nat):Value:=.pointer (some ⟨b,o,none⟩)
section
variable {Q:Value->Prop} {mn:Bool} {x:aK} {c:Frame} {rest:List Frame} {S:al} {B:aH} {σ:List Row} {H:υ} {s m k:Nat} {sp:Spec} {v:Option (Nat×aD)}
def q' (Q:Value->Prop) (mn:Bool) (x:aK) (c:Frame) (rest:List Frame) (S:al) (H:υ) (s k:Nat) (sp:Spec):Prop:=
 ∀(aj:al) (H':υ) (L:List Nat) (E:υ),Ext S [] H aj [] H'->Holds aj [] [] H'->sp.bw L E->Apart H' E->(L.Nodup/\k∉L/\∃w,Fits H' w/\Fits E w)->b4 Tryz.prog Q mn (bb x s (.ch k (.cW L) .work) none 0) (c.finish (.tuple #[])) rest (join H' E)
def Lw (Q:Value->Prop) (mn:Bool) (x:aK) (s m k:Nat) (sp:Spec):Prop:=∀(c:Frame) (rest:List Frame) (S:al) (B:aH) (σ:List Row) (H:υ) (v:Option (Nat×aD)),Holds S B σ H->q' Q mn x c rest S H s k sp->
 b4 Tryz.prog Q mn (bb x s (.ch k (.act false) .work) v 1) (Frame.enter Tryz.prog 213 #[ptr m 0] .normal) (c::rest) H
theorem Vl (η:ig x s m sp) (ψ:Holds S B σ H) (Vm:Lw Q mn x s m k sp)
  (Ζ:q' Q mn x c rest S H s k sp):b4 Tryz.prog Q mn (bb x s (.ch k .idle .work) v 0) (Frame.enter Tryz.prog 175 #[ptr m 0] .normal) (c::rest) H:=by
 letI:bh:=ev;have U:=η.seq;refine V.oL (z:=one _) (vs:=[ptr m 0]) Tryz.func175 rfl ψ (by simp[Tryz.ntmps175]) ?_ _ rfl;refine V.a0 (U _ _ _) rfl ?_
 repeat first|apply aO|apply aP|apply aQ|apply wd
 refine W.b0 (.stop ?_);refine V.disable (U _ _ _).here ⟨⟨rfl,rfl,by simp[Frame.enter],rfl⟩,yK,⟨_,rfl⟩,rfl,rfl,rfl⟩ ?_;rw[yF];refine V.a0 (U _ _ _) rfl ?_;refine W.bm ?_
 repeat first|apply aO|apply aP|apply aQ|apply wd
 refine W.b0 ?_;refine W.part (A:=[]) Μ [0,1,2] [3] rfl λθ I=>?_;(try simp);(repeat (rw[ε];simp));apply I;refine W.stop ?_;refine V.Cd (U _ _ _).here (Nat.succ_pos _) (sp:=sp) η.spec (by rw[bP];exact id) η.aI ⟨⟨rfl,rfl,by simp[Frame.enter],rfl⟩,Cl,⟨_,rfl⟩,rfl,rfl,rfl⟩ (λφ ο ν hv=>?_) (λφ ο ν hv=>?_)
 ·refine .inr ⟨.ch k (.act false) .work,by rw[bP];exact .Oc,λb1 _=>?_⟩;rw[gf];refine V.a0 (U _ _ _) rfl ?_;refine W.bm ?_
  repeat first|apply aO|apply aP|apply aQ|apply wd
  refine au rfl ?_
  repeat first|apply aO|apply aP|apply aQ|apply wd
  refine W.b0 ?_;refine W.part (A:=[]) Μ [0] [1] rfl λθ I=>?_;(try simp);(repeat (rw[ε];simp));apply I;refine W.stop ?_;refine V.call (U _ _ _) ⟨rfl,rfl,by simp[Frame.enter],rfl⟩ rfl rfl rfl ⟨_,Tryz.func213,rfl,rfl⟩ λbr bB H1 t1 nE κ χ hv=>?_;obtain rfl:=lE (l:=[ptr m 0]) hv;rintro y rfl;refine Vm _ _ br bB _ H1 _ χ.holds λcV bH L E j2 h6 eA iA uh=>?_;rw[ho rfl];refine b4.leave0 (U _ _ _) rfl rfl rfl rfl Tryz.func175 rfl ?_;obtain rfl:bB=[]:=dk.1 χ.holds.len;exact Ζ cV bH L E (κ.ext.trans j2) h6 eA iA uh
 ·have af:ο.bY=0/\ο.sv=0/\ο.wk=0/\ο.nw=0:=by simp only[mwd] at hv;omega
  refine⟨{ο with bY:=1},.ch k .own .work,by simp[mwd];omega,rfl,⟨rfl,rfl,rfl⟩,by rw[bP];exact .Ob af.1 af.2.1 af.2.2.1 af.2.2.2,λb1 _=>?_⟩;rw[gf];refine V.a0 (U _ _ _) rfl ?_;refine W.bm ?_
  repeat first|apply aO|apply aP|apply aQ|apply wd
  refine ax rfl ?_
  repeat first|apply aO|apply aP|apply aQ|apply wd
  refine ax rfl ?_
  repeat first|apply aO|apply aP|apply aQ|apply wd
  refine W.b0 (.stop ?_);refine V.enable (U _ _ _).here (Nat.succ_pos _) ⟨⟨rfl,rfl,by simp[Frame.enter],rfl⟩,sw,⟨_,rfl⟩,rfl,rfl,rfl⟩ ?_;rw[yG];refine V.a0 (U _ _ _) rfl ?_;refine W.bm ?_
  repeat first|apply aO|apply aP|apply aQ|apply wd
  refine W.b0 ?_;refine W.part (A:=[]) Μ [0] [1,2] rfl λθ I=>?_;(try simp);(repeat (rw[ε];simp));apply I;refine W.stop ?_;refine V.conv (U _ _ _).here (sp:=sp) η.spec (by rw[bP];exact id) ⟨rfl,rfl,by simp[Frame.enter],rfl⟩ rfl rfl rfl Gd sx Ge rfl (λο w ω bk=>⟨_,bk.dn (by rw[ω];exact η.aI)⟩) (λφ ο ν=>?_);unfold g8;rw[jf];refine V.z7 η.rel rfl (sp:=sp) η.spec η.aI bP ⟨⟨rfl,rfl,by simp[Frame.enter],rfl⟩,Ck,⟨_,rfl⟩,rfl,rfl,rfl⟩ λbr bB H1 t1 L E κ χ eA iA uh=>?_;rw[gf];obtain rfl:bB=[]:=dk.1 χ.holds.len;refine b4.Vk (U _ _ _) rfl rfl rfl rfl Tryz.func175 rfl ?_;exact Ζ br H1 L E κ.ext χ.holds eA iA uh
end
def du:List Nat->Code->Code
 | [],c=>c
 | 0::l,.seq a _=>du l a
 | _::l,.seq _ b=>du l b
 | 0::l,.cond _ a _=>du l a
 | _::l,.cond _ _ b=>du l b
 | _::l,.block _ c=>du l c
 | _::l,.loop c=>du l c
 | _,c=>c
noncomputable def oQ:Code:=Tryz.f213.body.getD .skip
noncomputable def lG:Code:=du [1,1,1,1,1,0,0,0] oQ
noncomputable def oR:Code:=du [0,1] lG
noncomputable def pX:Code:=du [1,1,1,1,1] oR
noncomputable def lH:Code:=du [1,0] pX
noncomputable def yL:Code:=du [1,1,1,1,1,1] oQ
noncomputable def j3:List Item:=[.inLoop lG,.inBlock 0,.code yL]
abbrev iQ (Q:Value->Prop) (mn:Bool) (x:aK) (c:Frame) (rest:List Frame) (S:al) (H:υ) (s m:Nat) (t:Tok) (v:Option (Nat×aD)) (d:Nat) (K:List Item) (env:Φ):Prop:=
 V Tryz.prog Q mn (one (bb x s t v d)) (Frame.enter Tryz.prog 213 #[ptr m 0] .normal) (c::rest) 139 ⟨S,[],H,[],0⟩ K env []
def cE (m:Nat) (w:Int) (aw st:Bool) (it τ:Int):Φ:=[(0,.z (ptr m 0)),(2,.z (.int .i64 τ)),(3,.z (.bool st)),(4,.z (.bool aw)),(5,.z (.int .i64 it)),(6,.z (.int .i32 w))]
def nM (a b c n:Nat) (aw st:Bool):Int:=
 if a=0/\c=0 then gg 1 (if aw then 0 else b) 0 n else gg a (if aw then 0 else b) (if st=true/\a=1 then 1 else c) (n+1)
section
variable {Q:Value->Prop} {mn:Bool} {x:aK} {c:Frame} {rest:List Frame} {S:al} {B:aH} {σ:List Row} {H:υ} {s m k:Nat} {sp:Spec} {v:Option (Nat×aD)} {t:Tok}
theorem Vn (η:ig x s m sp) {a b dA n:Nat} {aw st:Bool} {it τ:Int} (κ:a<2) (hb:b<2) (k7:dA<2) (Ι:n<7) (Vo:aw=true->dA=0/\b=1) (cj:st=true->aw=true)
  (hC:iQ Q mn x c rest S H s m t v 1 (.code (du [0] pX)::.code (du [1] pX)::.inBlock 1::j3) (cE m (gg a b dA n) aw st it τ++[(7,.z (.int .i32 (nM a b dA n aw st)))])) :
  iQ Q mn x c rest S H s m t v 1 (.code oR::.inBlock 1::j3) (cE m (gg a b dA n) aw st it τ):=by
 letI:bh:=ev;have U:=η.seq;have g0:(a=0\/a=1)/\(dA=0\/dA=1):=by omega
 have cg:=Ga a κ b hb dA k7 n (by omega)
 have eF:=F' a κ b hb dA k7 n (by omega)
 have Δ:=U6 a κ b hb dA k7 n (by omega)
 have dq:=U7 a κ b hb dA k7 n (by omega)
 have sy:=U' a κ b hb dA k7 n Ι;refine V.a0 (U _ _ _) rfl ?_;unfold oR lG oQ;cases aw with
 | false=>
  have ν:st=false:=by cases st<;>simp_all
  subst ν;rcases g0 with⟨rfl|rfl,rfl|rfl⟩
  ·(repeat (first|apply aO|apply aP|apply aQ|apply wd|refine ax rfl ?_|refine au rfl ?_|(refine ξ λθ I=>?_;simp;(repeat (rw[ε];simp[cE,cg,eF,dq]));apply I)));exact W.forget _ (by simp[cE,nM]) (.stop hC)
  ·(repeat (first|apply aO|apply aP|apply aQ|apply wd|refine ax rfl ?_|refine au rfl ?_|(refine ξ λθ I=>?_;simp;(repeat (rw[ε];simp[cE,cg,eF,sy]));apply I)));exact W.forget _ (by simp[cE,nM]) (.stop hC)
  ·(repeat (first|apply aO|apply aP|apply aQ|apply wd|refine ax rfl ?_|refine au rfl ?_|(refine ξ λθ I=>?_;simp;(repeat (rw[ε];simp[cE,cg,eF,dq,sy]));apply I)));exact W.forget _ (by simp[cE,nM]) (.stop hC)
  ·(repeat (first|apply aO|apply aP|apply aQ|apply wd|refine ax rfl ?_|refine au rfl ?_|(refine ξ λθ I=>?_;simp;(repeat (rw[ε];simp[cE,cg,eF,sy]));apply I)));exact W.forget _ (by simp[cE,nM]) (.stop hC)
 | true=>
  obtain⟨rfl,rfl⟩:=Vo rfl;rcases g0 with⟨rfl|rfl,-⟩
  ·have fq:=Cj 1 (by omega) 1 (by omega) 0 (by omega) n (by omega)
   have p2:=Gb 1 (by omega) 1 (by omega) 0 (by omega) n (by omega);cases st
   ·(repeat (first|apply aO|apply aP|apply aQ|apply wd|refine ax rfl ?_|refine au rfl ?_|(refine ξ λθ I=>?_;simp;(repeat (rw[ε];simp[cE,cg,eF,dq,fq,p2]));apply I)));exact W.forget _ (by simp[cE,nM]) (.stop hC)
   ·(repeat (first|apply aO|apply aP|apply aQ|apply wd|refine ax rfl ?_|refine au rfl ?_|(refine ξ λθ I=>?_;simp;(repeat (rw[ε];simp[cE,cg,eF,Δ,dq,fq,p2]));apply I)));exact W.forget _ (by simp[cE,nM]) (.stop hC)
  ·cases st
   ·have fq:=Cj 1 (by omega) 1 (by omega) 0 (by omega) (n+1) (by omega)
    have p2:=Gb 1 (by omega) 1 (by omega) 0 (by omega) (n+1) (by omega);(repeat (first|apply aO|apply aP|apply aQ|apply wd|refine ax rfl ?_|refine au rfl ?_|(refine ξ λθ I=>?_;simp;(repeat (rw[ε];simp[cE,cg,eF,dq,sy,fq,p2]));apply I)));exact W.forget _ (by simp[cE,nM]) (.stop hC)
   ·have h2:=U9 1 (by omega) 1 (by omega) 0 (by omega) (n+1) (by omega)
    have fq:=Cj 1 (by omega) 1 (by omega) 1 (by omega) (n+1) (by omega)
    have p2:=Gb 1 (by omega) 1 (by omega) 1 (by omega) (n+1) (by omega);(repeat (first|apply aO|apply aP|apply aQ|apply wd|refine ax rfl ?_|refine au rfl ?_|(refine ξ λθ I=>?_;simp;(repeat (rw[ε];simp[cE,cg,eF,Δ,dq,sy,h2,fq,p2]));apply I)));exact W.forget _ (by simp[cE,nM]) (.stop hC)
theorem Lx (η:ig x s m sp) (Ζ:q' Q mn x c rest S H s k sp) {env:Φ} (af:aW env 0=.z (ptr m 0)):iQ Q mn x c rest S H s m (.ch k .own .work) v 1 [.code yL] env:=by
 letI:bh:=ev;have U:=η.seq;refine V.a0 (U _ _ _) rfl ?_;unfold yL oQ;refine ax rfl ?_
 repeat first|apply aO|apply aP|apply aQ|apply wd
 refine W.b0 (.stop ?_);refine V.enable (U _ _ _).here (Nat.succ_pos _) ⟨⟨rfl,rfl,by simp[Frame.enter],rfl⟩,sw,⟨_,rfl⟩,rfl,rfl,rfl⟩ ?_;rw[yG];refine V.a0 (U _ _ _) rfl ?_;refine W.bm ?_
 repeat first|apply aO|apply aP|apply aQ|apply wd
 refine W.b0 ?_;refine W.part (A:=[]) Μ [0] [1,2] rfl λθ I=>?_;simp;(repeat (rw[ε];simp[af]));apply I;refine W.stop ?_;refine V.conv (U _ _ _).here (sp:=sp) η.spec (by rw[bP];exact id) ⟨rfl,rfl,by simp[Frame.enter],rfl⟩ rfl rfl rfl Gd sx Ge rfl (λο w ω bk=>⟨_,bk.dn (by rw[ω];exact η.aI)⟩) (λφ ο ν=>?_);unfold g8;rw[jf];refine V.z7 η.rel rfl (sp:=sp) η.spec η.aI bP ⟨⟨rfl,rfl,by simp[Frame.enter],rfl⟩,Ck,⟨_,rfl⟩,rfl,rfl,rfl⟩ λbr bB H1 t1 L E κ χ eA iA uh=>?_;rw[gf];obtain rfl:bB=[]:=dk.1 χ.holds.len;refine b4.leave0 (U _ _ _) rfl rfl rfl rfl Tryz.func213 rfl ?_;exact Ζ br H1 L E κ.ext χ.holds eA iA uh
end
section
variable {Q:Value->Prop} {mn:Bool} {x:aK} {c:Frame} {rest:List Frame} {S:al} {B:aH} {σ:List Row} {H:υ} {s m k:Nat} {sp:Spec} {v:Option (Nat×aD)} {t:Tok}
theorem Cm:(Tryz.prog.funcs[213]?).any (·.norace)=true:=by kernel_rfl
theorem Ly:(Tryz.prog.funcs[245]?).any (·.norace)=true:=by kernel_rfl
def yM (Q:Value->Prop) (mn:Bool) (x:aK) (c:Frame) (rest:List Frame) (S:al) (H:υ) (s m k:Nat) (sp:Spec) (φ:Nat):Prop:=
 ∀(b1:Nat) (ο:aD) (aw st:Bool) (it τ:Int),b1<φ->ο.toSpec=sp->q8 ο (.ch k (.act aw) .work)->(st=true->aw=true)->0<=it->it<=4->iQ Q mn x c rest S H s m (.ch k (.act aw) .work) (some (b1,ο)) 1 j3 (cE m (mwd ο) aw st it τ)
theorem Lz {ο:aD} {aw:Bool} (h:q8 ο (.ch k (.act aw) .work)):aw=true->ο.sv=0/\ο.wk=1:=λe=>h.zD (by rw[e];rfl)
theorem Vp (η:ig x s m sp) (Ζ:q' Q mn x c rest S H s k sp) {φ:Nat} (Γ:yM Q mn x c rest S H s m k sp φ) {fP:Nat} {j4:aD} (af:fP<φ) {st:Bool} {τ:Int} :
  iQ Q mn x c rest S H s m (.ch k .wk .work) (some (fP,j4)) 1 (.code (du [1,1,1,1,1] lH)::.inBlock 1::j3) [(0,.z (ptr m 0)),(2,.z (.int .i64 τ)),(3,.z (.bool st))]:=by
 letI:bh:=ev;have U:=η.seq;refine V.a0 (U _ _ _) rfl ?_;unfold lH pX oR lG oQ
 repeat first|apply aO|apply aP|apply aQ|apply wd
 refine W.b0 ?_;refine W.part (A:=[]) Μ [0,1,2] [3,4] rfl λθ I=>?_;(try simp);(repeat (rw[ε];simp));apply I;refine W.stop ?_;refine V.vX (U _ _ _).here (sp:=sp) η.spec (by rw[bP];exact id) ⟨rfl,rfl,by simp[Frame.enter],rfl⟩ rfl rfl rfl vY rfl Cm mwd (λο w ω bk=>bk.dn (by rw[ω];exact η.aI)) (λgh ο ν=>.inr ?_);have Α:=ν.ie.lV;rw[bP] at Α;have hv:=ν.view fP j4 nK;have LA:=Α.wS rfl;have fN:ο.top<7:=by have:=η.top;rw[show ο.top=sp.top by rw[<-ν.spec]];exact this
 have Ι:=Α.nw
 have Β:=Α.bY;have hw:=Α.wk;have oH:=Α.sv
 have cg:=Ga ο.bY (by omega) ο.wk (by omega) ο.sv (by omega) ο.nw (by omega)
 have a3:=U4 ο.bY (by omega) ο.wk (by omega) ο.sv (by omega) ο.nw (by omega)
 have kK:=Gc ο.bY (by omega) ο.wk (by omega) ο.sv (by omega) ο.nw (by omega);rw[<-nL] at cg a3 kK;rcases(show ο.sv=0\/ο.sv=1 by omega) with md|md
 ·refine⟨.ch k (.act true) .work,by rw[bP];exact .norm md,λb1 dX=>?_⟩;rw[gf];rw[md] at cg;refine V.a0 (U _ _ _) rfl ?_;refine W.part (A:=[]) Μ [4] [] rfl λθ I=>?_;(try simp);(repeat (rw[ε];simp));(try simp[]);apply I;refine W.bm ?_;(repeat (first|apply aO|apply aP|apply aQ|apply wd|refine ax rfl ?_|refine au rfl ?_|(refine ξ λθ I=>?_;simp;(repeat (rw[ε];simp[cg]));apply I)));refine W.forget (cE m (mwd ο) true st 0 τ) (by simp[cE]) (.stop ?_);exact Γ b1 ο true st 0 τ (by omega) ν.spec ⟨Α.bY,Α.wk,Α.sv,Α.cM,Α.nw,λ_=>⟨md,LA.1 md⟩,λh=>(by cases h),λh=>(by cases h),λh=>(by cases h)⟩ (λ_=>rfl) (by omega) (by omega)
 ·obtain⟨Ξ,aa,aM⟩:=LA.2 md;refine⟨.ch k .hw .work,by rw[bP];exact .hand md,λb1 dX=>?_⟩;rw[gf];rw[md] at cg;rw[Ξ,aa] at a3;have bd:¬ο.nw=0:=by omega
  have LB:IntKind.i32.wrap (-11)=-11:=by decide
  have fin:∀(w:Option (Nat×aD)) (env:Φ),aW env 0=.z (ptr m 0)->iQ Q mn x c rest S H s m (.ch k .own .work) w 1 [.code yL] env:=λw env h=>Lx η Ζ h
  have add:∀(o3:Bool) (env:Φ),aW env 0=.z (ptr m 0)->aW env 9=.z (.int .i32 (if o3 then -11 else -7))->iQ Q mn x c rest S H s m (.ch k .hw .work) (some (b1,ο)) 1 (.code (du [1,1,1,1,1,1,0,1,0,1,1,1,0] lH)::.code (du [1,1,1,1,1,1,0,1,0,1,1,1,1] lH)::.code (du [1,1,1,1,1,1,1] lH)::.inBlock 1::j3) env:=λo3 env af rq=>by
   refine V.a0 (U _ _ _) rfl ?_;unfold lH pX oR lG oQ
   repeat first|apply aO|apply aP|apply aQ|apply wd
   refine W.b0 ?_;refine W.part (A:=[]) Μ [0,1,2,3] [4] rfl λθ I=>?_;(try simp);(repeat (rw[ε];simp[af,rq]));(try simp[af,rq]);apply I;refine W.stop ?_;refine V.Ld (U _ _ _).here (Nat.succ_pos _) (sp:=sp) η.spec (by rw[bP];exact id) η.aI (d:=if o3 then -11 else -7) ⟨⟨rfl,rfl,by simp[Frame.enter],rfl⟩,Lp,⟨_,rfl⟩,rfl,rfl,rfl⟩ (λgV e9 dG=>?_);have eI:=dG.ie.lV;rw[bP] at eI;obtain⟨f1,f2,f3,f4⟩:=eI.hw rfl;have cΚ:e9.top<7:=by have:=η.top;rw[show e9.top=sp.top by rw[<-dG.spec]];exact this
   have yt:=eI.nw;refine⟨{e9 with bY:=1,nw:=e9.nw-1,sv:=if o3 then 0 else 1},.ch k .own .work,?_,rfl,⟨rfl,rfl,rfl⟩,by rw[bP];exact .hacq o3,λvZ _=>?_⟩
   ·cases o3<;>simp[mwd,IntKind.wrap_i32,f1,f2,f3]<;>omega
   ·rw[gf];refine V.a0 (U _ _ _) rfl ?_;refine W.bm ?_
    repeat first|apply aO|apply aP|apply aQ|apply wd
    refine W.exit rfl (.stop ?_);refine fin _ _ ?_;simp[af]
  refine V.a0 (U _ _ _) rfl ?_;refine W.part (A:=[]) Μ [4] [] rfl λθ I=>?_;(try simp);(repeat (rw[ε];simp));(try simp[]);apply I;refine W.bm ?_;cases st with
  | false=>
   (repeat (first|apply aO|apply aP|apply aQ|apply wd|refine ax rfl ?_|refine au rfl ?_|(refine ξ λθ I=>?_;simp;(repeat (rw[ε];simp[cg,a3,kK,bd,LB]));apply I)));exact .stop (add true _ rfl rfl)
  | true=>
   by_cases J:ο.nw=1
   ·(repeat (first|apply aO|apply aP|apply aQ|apply wd|refine ax rfl ?_|refine au rfl ?_|(refine ξ λθ I=>?_;simp;(repeat (rw[ε];simp[cg,a3,kK,bd,J,LB]));apply I)));exact .stop (add true _ rfl rfl)
   ·have u1:¬(ο.nw:Int)=1:=by omega
    (repeat (first|apply aO|apply aP|apply aQ|apply wd|refine ax rfl ?_|refine au rfl ?_|(refine ξ λθ I=>?_;simp;(repeat (rw[ε];simp[cg,a3,kK,bd,J,u1]));apply I)));exact .stop (add false _ rfl rfl)
theorem Vq (η:ig x s m sp) (Ζ:q' Q mn x c rest S H s k sp) {φ:Nat} (Γ:yM Q mn x c rest S H s m k sp φ) {fP:Nat} {j4:aD} (af:fP<φ) {st y:Bool} {τ:Int} :
  iQ Q mn x c rest S H s m (.ch k .q .work) (some (fP,j4)) 1 (.code (du [1,1,1,0] lH)::.code (du [1,1,1,1] lH)::.inBlock 1::j3) [(0,.z (ptr m 0)),(2,.z (.int .i64 τ)),(3,.z (.bool st)),(8,.z (.bool y))]:=by
 letI:bh:=ev;have U:=η.seq;have next:∀(gh:Nat) (fh:aD) (st:Bool),gh<φ->iQ Q mn x c rest S H s m (.ch k .wk .work) (some (gh,fh)) 1 (.code (du [1,1,1,1,1] lH)::.inBlock 1::j3) [(0,.z (ptr m 0)),(2,.z (.int .i64 τ)),(3,.z (.bool st))]:=λgh fh st J=>Vp η Ζ Γ J
 refine V.a0 (U _ _ _) rfl ?_;unfold lH pX oR lG oQ
 repeat first|apply aO|apply aP|apply aQ|apply wd
 refine W.b0 ?_;refine W.part (A:=[]) Μ [0,1,2,3] [4] rfl λθ I=>?_;(try simp);(repeat (rw[ε];simp));apply I;refine W.stop ?_;refine V.UK (U _ _ _).here (sp:=sp) η.spec (by rw[bP];exact id) η.aI (vs:=[ptr m 1,.bool y,.int .i64 2]) rfl (λa7 hY=>by rw[yH hY];exact η.still a7 hY) ⟨⟨rfl,rfl,by simp[Frame.enter],rfl⟩,Vh,⟨_,rfl⟩,rfl,rfl,rfl⟩ (λgh ο ν h=>by rw[bP];exact h) (λgh ο ν h=>?_);have hv:=ν.view fP j4 nK;refine⟨{ο with cM:=ο.cM-1},.ch k .wk .work,rfl,rfl,⟨rfl,rfl,rfl⟩,by rw[bP];exact .take h,λgV dX=>?_⟩;rw[gf];refine V.a0 (U _ _ _) rfl ?_;refine W.bm ?_;cases st with
 | true=>
  first|apply aO|apply aP|apply aQ|apply wd
  refine ξ λθ I=>?_;(try simp);(repeat (rw[ε];simp));(try simp[]);apply I;refine W.forget [(0,.z (ptr m 0)),(2,.z (.int .i64 τ)),(3,.z (.bool true))] (by simp) (.stop ?_);exact next gV _ true (by omega)
 | false=>
  first|apply aO|apply aP|apply aQ|apply wd
  refine W.b0 ?_;refine W.part (A:=[]) Μ [0,1] [2,3,4,5,6,7] rfl λθ I=>?_;(try simp);(repeat (rw[ε];simp));apply I;refine W.stop ?_;refine V.nano (U _ _ _) (vs:=[]) ⟨⟨rfl,rfl,by simp[Frame.enter],rfl⟩,Ls,⟨_,rfl⟩,rfl,rfl,rfl⟩ Ly λen=>?_;refine V.a0 (U _ _ _) rfl ?_;refine W.part (A:=[]) Μ [3,4,5,6,7] [] rfl λθ I=>?_;(try simp);(repeat (rw[ε];simp));(try simp[]);apply I;refine W.bm ?_;refine W.forget [(0,.z (ptr m 0)),(2,.z (.int .i64 τ)),(3,.z (.bool (decide (1000000<IntKind.i64.wrap (en-τ)))))] (by simp) (.stop ?_);exact next gV _ _ (by omega)
theorem Vr (η:ig x s m sp) (Ζ:q' Q mn x c rest S H s k sp) {φ:Nat} (Γ:yM Q mn x c rest S H s m k sp φ) {fP:Nat} {j4:aD} (af:fP<φ) {w:Int} {aw st:Bool} {it τ:Int} (aF:¬ff .i32 w 5=0) :
  iQ Q mn x c rest S H s m (.ch k .q .work) (some (fP,j4)) 1 (.code lH::.inBlock 1::j3) (cE m w aw st it τ):=by
 letI:bh:=ev;have U:=η.seq;have next:∀(τ:Int) (y:Bool),iQ Q mn x c rest S H s m (.ch k .q .work) (some (fP,j4)) 1 (.code (du [1,1,1,0] lH)::.code (du [1,1,1,1] lH)::.inBlock 1::j3) [(0,.z (ptr m 0)),(2,.z (.int .i64 τ)),(3,.z (.bool st)),(8,.z (.bool y))]:=λτ y=>Vq η Ζ Γ af
 refine V.a0 (U _ _ _) rfl ?_;unfold lH pX oR lG oQ;by_cases h:τ=0
 ·subst h;(repeat (first|apply aO|apply aP|apply aQ|apply wd|refine ax rfl ?_|refine au rfl ?_|(refine ξ λθ I=>?_;simp;(repeat (rw[ε];simp[cE,aF]));apply I)));refine W.b0 (.stop ?_);refine V.nano (U _ _ _) (vs:=[]) ⟨⟨rfl,rfl,by simp[Frame.enter],rfl⟩,Ls,⟨_,rfl⟩,rfl,rfl,rfl⟩ Ly λen=>?_;refine V.a0 (U _ _ _) rfl ?_;refine W.part (A:=[]) Μ [1] [] rfl λθ I=>?_;(try simp);(repeat (rw[ε];simp));(try simp[]);apply I;refine W.bm ?_
  first|apply aO|apply aP|apply aQ|apply wd
  refine W.forget [(0,.z (ptr m 0)),(2,.z (.int .i64 en)),(3,.z (.bool st)),(8,.z (.bool false))] (by simp) (.stop ?_);exact next en false
 ·(repeat (first|apply aO|apply aP|apply aQ|apply wd|refine ax rfl ?_|refine au rfl ?_|(refine ξ λθ I=>?_;simp;(repeat (rw[ε];simp[cE,aF,h]));apply I)));refine W.forget [(0,.z (ptr m 0)),(2,.z (.int .i64 τ)),(3,.z (.bool st)),(8,.z (.bool true))] (by simp[h]) (.stop ?_);exact next τ true
end
theorem LC {a b:aD} {t u:Tok} (κ:q8 a t) (hb:q8 b u) (h:mwd a=mwd b):a.bY=b.bY/\a.wk=b.wk/\a.sv=b.sv/\a.nw=b.nw:=by
 have:=κ.bY;have:=κ.wk;have:=κ.sv;have:=hb.bY;have:=hb.wk;have:=hb.sv;simp only[mwd] at h;omega
section
variable {Q:Value->Prop} {mn:Bool} {x:aK} {c:Frame} {rest:List Frame} {S:al} {B:aH} {σ:List Row} {H:υ} {s m k:Nat} {sp:Spec} {v:Option (Nat×aD)} {t:Tok}
theorem yN (η:ig x s m sp) {ο:aD} (h:ο.toSpec=sp):ο.top<7:=by have:=η.top;rw[show ο.top=sp.top by rw[<-h]];exact this
theorem Vs (η:ig x s m sp) (Ζ:q' Q mn x c rest S H s k sp) {φ:Nat} {ο:aD} (Γ:yM Q mn x c rest S H s m k sp φ) (ω:ο.toSpec=sp) {aw st:Bool} {it τ:Int} (Α:q8 ο (.ch k (.act aw) .work)) (cj:st=true->aw=true) (jm:0<=it) (Cn:it<=4) :
  iQ Q mn x c rest S H s m (.ch k (.act aw) .work) (some (φ,ο)) 1 (.code (du [0] pX)::.code (du [1] pX)::.inBlock 1::j3) (cE m (mwd ο) aw st it τ++[(7,.z (.int .i32 (nM ο.bY ο.wk ο.sv ο.nw aw st)))]):=by
 letI:bh:=ev;have U:=η.seq;have rF:=Lz Α;have fN:=yN η ω;have Β:=Α.bY;have hw:=Α.wk;have oH:=Α.sv;have Ι:=Α.nw;have eF:=F' ο.bY (by omega) ο.wk (by omega) ο.sv (by omega) ο.nw (by omega);rw[<-nL] at eF;have fin:∀(w:Option (Nat×aD)) (env:Φ),aW env 0=.z (ptr m 0)->iQ Q mn x c rest S H s m (.ch k .own .work) w 1 [.code yL] env:=λw env h=>Lx η Ζ h;have tail:∀(fP:Nat) (j4:aD),fP<φ->¬ff .i32 (mwd ο) 5=0->iQ Q mn x c rest S H s m (.ch k .q .work) (some (fP,j4)) 1 (.code lH::.inBlock 1::j3) (cE m (mwd ο) aw st it τ):=λfP j4 af aF=>Vr η Ζ Γ af aF;refine V.a0 (U _ _ _) rfl ?_;unfold pX oR lG oQ;refine W.b0 ?_;refine W.part (A:=[]) Μ [0,1,2,3,4] [5] rfl λθ I=>?_;(try simp);(repeat (rw[ε];simp[cE]));(try simp[cE]);apply I;refine W.stop ?_;refine V.Cd (U _ _ _).here (Nat.succ_pos _) (sp:=sp) η.spec (by rw[bP];exact id) η.aI ⟨⟨rfl,rfl,by simp[Frame.enter],rfl⟩,Cl,⟨_,rfl⟩,rfl,rfl,rfl⟩ (λgh fh ν hv=>.inl ?_) (λgh fh ν hv=>?_)
 ·
  have oj:=ν.view φ ο nK
  have J:gh<φ:=by
   rcases Nat.lt_or_ge gh φ with h|h
   ·exact h
   ·exact absurd (by rw[oj.2 (by omega)]) hv
  unfold g8;rw[jf];refine V.a0 (U _ _ _) rfl ?_;refine W.bm ?_
  repeat (first|apply aO|apply aP|apply aQ|apply wd)
  refine au rfl ?_;refine W.b0 ?_;refine W.part (A:=[]) Μ [0,1,2] [3,4] rfl λθ I=>?_;(try simp);(repeat (rw[ε];simp));apply I;refine W.stop ?_;refine V.vX (U _ _ _).here (sp:=sp) η.spec (by rw[bP];exact id) ⟨rfl,rfl,by simp[Frame.enter],rfl⟩ rfl rfl rfl vY rfl Cm mwd (λο w ω bk=>bk.dn (by rw[ω];exact η.aI)) (λgV e9 dG=>.inl ?_);have vG:=dG.view gh fh nK;have eI:=dG.ie.lV;rw[bP] at eI;unfold g8;rw[jf];refine V.a0 (U _ _ _) rfl ?_;refine W.part (A:=[]) Μ [4] [] rfl λθ I=>?_;(try simp);(repeat (rw[ε];simp));(try simp[]);apply I;refine W.bm ?_;refine W.inBlock ?_;refine W.forget (cE m (mwd e9) aw st it τ) (by simp[cE]) (.stop ?_);exact Γ gV e9 aw st it τ (by omega) dG.spec eI cj jm Cn
 ·have oj:=ν.view φ ο nK
  have h3:=ν.ie.lV;rw[bP] at h3;obtain⟨Ξ,aa,aM,b9⟩:=LC h3 Α hv;by_cases yO:ο.bY=0/\ο.sv=0
  ·refine⟨{fh with bY:=1,wk:=if aw then 0 else fh.wk},.ch k .own .work,?_,rfl,⟨rfl,rfl,rfl⟩,by rw[bP];exact .acq (by omega) (by omega),λgV dX=>?_⟩
   ·simp[nM,nL,aa,aM,b9,yO.1,yO.2]
   ·rw[gf];rw[yO.1,yO.2] at eF;refine V.a0 (U _ _ _) rfl ?_;refine W.bm ?_
    repeat (first|apply aO|apply aP|apply aQ|apply wd)
    refine ax rfl ?_;(repeat (first|apply aO|apply aP|apply aQ|apply wd|refine ax rfl ?_|refine au rfl ?_|(refine ξ λθ I=>?_;simp;(repeat (rw[ε];simp[eF]));apply I)));refine W.exit rfl (.stop ?_);exact fin _ _ rfl
  ·have Ψ:ο.bY=1\/ο.sv=1:=by omega
   refine⟨{fh with nw:=fh.nw+1,wk:=if aw then 0 else fh.wk,sv:=if(st&&decide (ο.bY=1)) then 1 else fh.sv},.ch k .q .work,?_,rfl,⟨rfl,rfl,rfl⟩,by rw[bP];exact .queue (st&&decide (ο.bY=1)) (by omega) (λh=>by simp at h;exact⟨cj h.1,by omega⟩),λgV dX=>?_⟩
   ·simp only[nM,if_neg yO,nL,Ξ,aa,aM,b9];simp
   ·rw[gf];refine V.a0 (U _ _ _) rfl ?_;refine W.bm ?_
    repeat (first|apply aO|apply aP|apply aQ|apply wd)
    refine ax rfl ?_;refine W.forget (cE m (mwd ο) aw st it τ) (by simp[cE]) (.stop ?_);exact tail gV _ (by omega) (by omega)
theorem Vt (η:ig x s m sp) {φ:Nat} {aw st:Bool} {it τ:Int} {fP:Nat} {j4:aD} (jm:0<=it) (Cn:it<4)
  (Γ:∀(b1:Nat) (gW:aD),b1<=fP->gW.toSpec=sp->q8 gW (.ch k (.act aw) .work)->iQ Q mn x c rest S H s m (.ch k (.act aw) .work) (some (b1,gW)) 1 j3 (cE m (mwd gW) aw st (it+1) τ)) :
  iQ Q mn x c rest S H s m (.ch k (.act aw) .work) (some (fP,j4)) 1 (.code (du [0,0,1,0,1,0] lG)::.code (du [0,0,1,0,1,1] lG)::.code oR::.inBlock 1::j3) [(0,.z (ptr m 0)),(2,.z (.int .i64 τ)),(3,.z (.bool st)),(4,.z (.bool aw)),(5,.z (.int .i64 it))]:=by
 letI:bh:=ev;have U:=η.seq;have hw:IntKind.i64.wrap (it+1)=it+1:=by simp only[IntKind.wrap_i64];omega
 refine V.a0 (U _ _ _) rfl ?_;unfold lG oQ
 repeat first|apply aO|apply aP|apply aQ|apply wd
 refine W.b0 (.stop ?_);refine V.Cg (U _ _ _) (vs:=[]) ⟨⟨rfl,rfl,by simp[Frame.enter],rfl⟩,Vg,⟨_,rfl⟩,rfl,rfl,rfl⟩ ?_;refine V.a0 (U _ _ _) rfl ?_;refine W.bm ?_
 repeat (first|apply aO|apply aP|apply aQ|apply wd)
 refine ξ λθ I=>?_;(try simp);(repeat (rw[ε];simp[hw]));(try simp[hw]);apply I
 repeat (first|apply aO|apply aP|apply aQ|apply wd)
 refine W.b0 ?_;refine W.part (A:=[]) Μ [0,1,2] [3,4] rfl λθ I=>?_;(try simp);(repeat (rw[ε];simp));apply I;refine W.stop ?_;refine V.vX (U _ _ _).here (sp:=sp) η.spec (by rw[bP];exact id) ⟨rfl,rfl,by simp[Frame.enter],rfl⟩ rfl rfl rfl vY rfl Cm mwd (λο w ω bk=>bk.dn (by rw[ω];exact η.aI)) (λgV e9 dG=>.inl ?_);have vG:=dG.view fP j4 nK;have eI:=dG.ie.lV;rw[bP] at eI;unfold g8;rw[jf];refine V.a0 (U _ _ _) rfl ?_;refine W.part (A:=[]) Μ [4] [] rfl λθ I=>?_;(try simp);(repeat (rw[ε];simp));(try simp[]);apply I;refine W.bm ?_;refine W.exit rfl ?_;refine W.forget (cE m (mwd e9) aw st (it+1) τ) (by simp[cE]) (.stop ?_);exact Γ gV e9 (by omega) dG.spec eI
theorem Vu (η:ig x s m sp) (Ζ:q' Q mn x c rest S H s k sp):∀(N φ:Nat) (ο:aD) (aw st:Bool) (it τ:Int),φ*8+(4-it).toNat<N->ο.toSpec=sp->q8 ο (.ch k (.act aw) .work)->(st=true->aw=true)->0<=it->it<=4->
  iQ Q mn x c rest S H s m (.ch k (.act aw) .work) (some (φ,ο)) 1 (.code lG::j3) (cE m (mwd ο) aw st it τ):=by
 letI:bh:=ev;have U:=η.seq;intro N
 induction N with
 | zero=>intro φ ο aw st it τ h;omega
 | succ N yP=>
  intro φ ο aw st it τ b8 ω Α cj jm Cn;have rF:=Lz Α;have fN:=yN η ω;have Β:=Α.bY;have hw:=Α.wk;have oH:=Α.sv;have Ι:=Α.nw;have eF:=F' ο.bY (by omega) ο.wk (by omega) ο.sv (by omega) ο.nw (by omega);have Ε:=Cj ο.bY (by omega) ο.wk (by omega) ο.sv (by omega) ο.nw (by omega);have h4:=U8 ο.bY (by omega) ο.wk (by omega) ο.sv (by omega) ο.nw (by omega);have kK:=Gc ο.bY (by omega) ο.wk (by omega) ο.sv (by omega) ο.nw (by omega);rw[<-nL] at eF Ε kK h4;have back:∀(b1:Nat) (gW:aD) (me v3:Bool) (sz en:Int),b1*8+(4-sz).toNat<N->gW.toSpec=sp->q8 gW (.ch k (.act me) .work)->(v3=true->me=true)->0<=sz->sz<=4->
    iQ Q mn x c rest S H s m (.ch k (.act me) .work) (some (b1,gW)) 1 j3 (cE m (mwd gW) me v3 sz en):=λb1 gW me v3 sz en J R ς Κ aF aV=>by
   have:=yP b1 gW me v3 sz en J R ς Κ aF aV;refine V.a0 (U _ _ _) rfl ?_;exact W.inLoop (.stop this)
  have eh:yM Q mn x c rest S H s m k sp φ:=λb1 gW me v3 sz en J R ς Κ aF aV=>back b1 gW me v3 sz en (by omega) R ς Κ aF aV
  have new:iQ Q mn x c rest S H s m (.ch k (.act aw) .work) (some (φ,ο)) 1 (.code oR::.inBlock 1::j3) (cE m (mwd ο) aw st it τ):=by
   rw[nL];exact Vn η (by omega) (by omega) (by omega) (by omega) rF cj (by rw[<-nL];exact Vs η Ζ eh ω Α cj jm Cn)
  have yQ:∀(fP:Nat) (j4:aD) (me:Bool),it<4->(fP<=φ)->(st=true->me=true)->iQ Q mn x c rest S H s m (.ch k (.act me) .work) (some (fP,j4)) 1 (.code (du [0,0,1,0,1,0] lG)::.code (du [0,0,1,0,1,1] lG)::.code oR::.inBlock 1::j3) [(0,.z (ptr m 0)),(2,.z (.int .i64 τ)),(3,.z (.bool st)),(4,.z (.bool me)),(5,.z (.int .i64 it))]:=λfP j4 me J R ς=>
   Vt η (φ:=φ) jm J λb1 gW Ξ aa aM=>back b1 gW me st (it+1) τ (by omega) aa aM ς (by omega) (by omega)
  refine V.a0 (U _ _ _) rfl ?_;unfold lG oQ
  repeat first|apply aO|apply aP|apply aQ|apply wd
  by_cases bF:ο.bY=1/\ο.sv=0
  ·rw[bF.1,bF.2] at eF;refine W.b0 ?_;refine W.part (A:=[]) Μ [0,1,2,3,4] [5,6] rfl λθ I=>?_;(try simp);(repeat (rw[ε];simp[cE,eF]));(try simp[cE,eF]);apply I;refine W.stop ?_;refine V.canSpin (U _ _ _) ⟨⟨rfl,rfl,by simp[Frame.enter],rfl⟩,Vf,⟨_,rfl⟩,rfl,rfl,rfl⟩ λy ad=>?_;refine V.a0 (U _ _ _) rfl ?_;refine W.part (A:=[]) Μ [6] [] rfl λθ I=>?_;(try simp);(repeat (rw[ε];simp[cE]));(try simp[cE]);apply I;refine W.bm ?_;cases y with
   | false=>
    refine au rfl ?_
    first|apply aO|apply aP|apply aQ|apply wd
    refine W.forget (cE m (mwd ο) aw st it τ) (by simp[cE]) (.stop ?_);exact new
   | true=>
    have Κ:=ad rfl;refine ax rfl ?_
    repeat first|apply aO|apply aP|apply aQ|apply wd
    cases aw with
    | true=>
     (repeat (first|apply aO|apply aP|apply aQ|apply wd|refine ax rfl ?_|refine au rfl ?_|(refine ξ λθ I=>?_;simp;(repeat (rw[ε];simp[cE]));apply I)));refine W.forget [(0,.z (ptr m 0)),(2,.z (.int .i64 τ)),(3,.z (.bool st)),(4,.z (.bool true)),(5,.z (.int .i64 it))] (by simp) (.stop ?_);exact yQ φ ο true Κ (Nat.le_refl _) (λ_=>rfl)
    | false=>
     by_cases Co:ο.wk=0
     ·by_cases pv:ο.nw=0
      ·rw[Co] at Ε;rw[pv] at kK;(repeat (first|apply aO|apply aP|apply aQ|apply wd|refine ax rfl ?_|refine au rfl ?_|(refine ξ λθ I=>?_;simp;(repeat (rw[ε];simp[cE,Ε,kK]));apply I)));refine W.forget [(0,.z (ptr m 0)),(2,.z (.int .i64 τ)),(3,.z (.bool st)),(4,.z (.bool false)),(5,.z (.int .i64 it))] (by simp) (.stop ?_);exact yQ φ ο false Κ (Nat.le_refl _) cj
      ·rw[Co] at Ε;have LD:((ο.nw:Int) != 0)=true:=by simp;omega
       refine W.b0 ?_;refine W.part (A:=[]) Μ [0,1,2,3,4,5,6,7,8,9,10,11,12,13,14,15,16,17,18] [19,20] rfl λθ I=>?_;(try simp);(repeat (rw[ε];simp[cE,Ε,kK,h4,pv,LD]));(try simp[cE,Ε,kK,h4,pv,LD]);apply I;refine W.stop ?_;refine V.Cd (U _ _ _).here (Nat.succ_pos _) (sp:=sp) η.spec (by rw[bP];exact id) η.aI ⟨⟨rfl,rfl,by simp[Frame.enter],rfl⟩,Cl,⟨_,rfl⟩,rfl,rfl,rfl⟩ (λgh fh ν hv=>.inl ?_) (λgh fh ν hv=>?_)
       ·have oj:=ν.view φ ο nK;unfold g8;rw[jf];refine V.a0 (U _ _ _) rfl ?_;refine W.part (A:=[]) Μ [20] [] rfl λθ I=>?_;(try simp);(repeat (rw[ε];simp[cE]));(try simp[cE]);apply I;refine W.bm ?_;refine au rfl ?_
        repeat (first|apply aO|apply aP|apply aQ|apply wd)
        refine W.forget [(0,.z (ptr m 0)),(2,.z (.int .i64 τ)),(3,.z (.bool st)),(4,.z (.bool false)),(5,.z (.int .i64 it))] (by simp[cE]) (.stop ?_);exact yQ gh fh false Κ (by omega) cj
       ·have oj:=ν.view φ ο nK
        have h3:=ν.ie.lV;rw[bP] at h3;obtain⟨Ξ,aa,aM,b9⟩:=LC h3 Α hv;refine⟨{fh with wk:=1},.ch k (.act true) .work,?_,rfl,⟨rfl,rfl,rfl⟩,by rw[bP];exact .Od (by omega) (by omega) (by omega) (by omega),λgV dX=>?_⟩
        ·simp[nL,Ξ,aM,b9]
        ·rw[gf];refine V.a0 (U _ _ _) rfl ?_;refine W.part (A:=[]) Μ [20] [] rfl λθ I=>?_;(try simp);(repeat (rw[ε];simp[cE]));(try simp[cE]);apply I;refine W.bm ?_;refine ax rfl ?_;refine ξ λθ I=>?_;(try simp);(repeat (rw[ε];simp[cE]));(try simp[cE]);apply I
         repeat (first|apply aO|apply aP|apply aQ|apply wd)
         refine W.forget [(0,.z (ptr m 0)),(2,.z (.int .i64 τ)),(3,.z (.bool st)),(4,.z (.bool true)),(5,.z (.int .i64 it))] (by simp[cE]) (.stop ?_);exact yQ gV _ true Κ (by omega) (λ_=>rfl)
     ·have j5:ο.wk=1:=by omega
      rw[j5] at Ε;(repeat (first|apply aO|apply aP|apply aQ|apply wd|refine ax rfl ?_|refine au rfl ?_|(refine ξ λθ I=>?_;simp;(repeat (rw[ε];simp[cE,Ε]));apply I)));refine W.forget [(0,.z (ptr m 0)),(2,.z (.int .i64 τ)),(3,.z (.bool st)),(4,.z (.bool false)),(5,.z (.int .i64 it))] (by simp) (.stop ?_);exact yQ φ ο false Κ (Nat.le_refl _) cj
  ·have aF:¬ff .i32 (mwd ο) 5=1:=by rw[eF];omega
   refine ξ λθ I=>?_;(try simp);(repeat (rw[ε];simp[cE,aF]));(try simp[cE,aF]);apply I;refine au rfl ?_
   first|apply aO|apply aP|apply aQ|apply wd
   refine W.forget (cE m (mwd ο) aw st it τ) (by simp[cE]) (.stop ?_);exact new
theorem Vv (η:ig x s m sp):Lw Q mn x s m k sp:=by
 intro c rest S B σ H v ψ Ζ;letI:bh:=ev;have U:=η.seq;have head:=λφ ο aw st it τ R ς Κ aF aV=>Vu η Ζ (φ*8+(4-it).toNat+1) φ ο aw st it τ (Nat.lt_succ_self _) R ς Κ aF aV;refine V.oL (z:=one _) (vs:=[ptr m 0]) Tryz.func213 rfl ψ (by simp[Tryz.ntmps213]) ?_ _ rfl;refine V.a0 (U _ _ _) rfl ?_;(repeat (first|apply aO|apply aP|apply aQ|apply wd|refine ax rfl ?_|refine au rfl ?_|(refine ξ λθ I=>?_;simp;(repeat (rw[ε];simp));apply I)));refine W.b0 ?_;refine W.part (A:=[]) Μ [0,1,2] [3,4] rfl λθ I=>?_;(try simp);(repeat (rw[ε];simp));apply I;refine W.stop ?_;refine V.vX (U _ _ _).here (sp:=sp) η.spec (by rw[bP];exact id) ⟨rfl,rfl,by simp[Frame.enter],rfl⟩ rfl rfl rfl vY rfl Cm mwd (λο w ω bk=>bk.dn (by rw[ω];exact η.aI)) (λgV e9 dG=>.inl ?_);have eI:=dG.ie.lV;rw[bP] at eI;unfold g8;rw[jf];refine V.a0 (U _ _ _) rfl ?_;refine W.part (A:=[]) Μ [4] [] rfl λθ I=>?_;(try simp);(repeat (rw[ε];simp));(try simp[]);apply I;refine W.bm ?_
 repeat (first|apply aO|apply aP|apply aQ|apply wd)
 refine W.loop ?_;refine W.forget (cE m (mwd e9) false false 0 0) (by simp[cE]) (.stop ?_);exact head gV e9 false false 0 0 dG.spec eI (λh=>by cases h) (by omega) (by omega)
theorem Vw (η:ig x s m sp) (ψ:Holds S B σ H) (Ζ:q' Q mn x c rest S H s k sp):b4 Tryz.prog Q mn (bb x s (.ch k .idle .work) v 0) (Frame.enter Tryz.prog 144 #[ptr m 0] .normal) (c::rest) H:=by
 letI:bh:=ev;have U:=η.seq;refine V.oL (z:=one _) (vs:=[ptr m 0]) Tryz.func144 rfl ψ (by simp[Tryz.ntmps144]) ?_ _ rfl;refine V.a0 (U _ _ _) rfl ?_
 repeat first|apply aO|apply aP|apply aQ|apply wd
 refine W.b0 ?_;refine W.part (A:=[]) Μ [0,1,2] [3] rfl λθ I=>?_;(try simp);(repeat (rw[ε];simp));apply I;refine W.stop ?_;refine V.call (U _ _ _) ⟨rfl,rfl,by simp[Frame.enter],rfl⟩ rfl rfl rfl ⟨_,Tryz.func175,rfl,rfl⟩ λbr bB H1 t1 nE κ χ hv=>?_;obtain rfl:=lE (l:=[ptr m 0]) hv;obtain rfl:bB=[]:=dk.1 χ.holds.len;rintro y rfl;refine Vl η χ.holds (Vv η) λcV bH L E j2 h6 eA iA uh=>?_;rw[ho rfl];refine b4.leave0 (U _ _ _) rfl rfl rfl rfl Tryz.func144 rfl ?_;exact Ζ cV bH L E (κ.ext.trans j2) h6 eA iA uh
end
noncomputable def LF:Code:=Tryz.f215.body.getD .skip
noncomputable def Gh:Code:=du [1,1,0,1,0,0] LF
noncomputable def LG:List Item:=[.inLoop Gh,.inBlock 0]
theorem Vx:∀n<8,0<n->u9 .i32 (IntKind.i32.wrap (gg 0 0 0 n-8)) 2=gg 0 1 0 (n-1):=by decide +kernel
theorem Vy:∀b<2,∀c<2,∀n<8,ff .i32 (IntKind.i32.wrap (gg 0 b c n+1)) 1=1:=by decide +kernel
abbrev eL:al:=λ_ _=>none
theorem yR {S aj:al} {B B':aH} {σ σ':List Row} {env:Φ} {t:Array Value} (he:∀p∈env,∃v,p.2=ζ.z v) (h:cY S B σ env t):cY aj B' σ' env t:=by
 intro i;have key:∀(env:Φ),(∀p∈env,∃v,p.2=ζ.z v)->(∃v,aW env i=.z v)\/aW env i=.ca:=by
  intro env
  induction env with
  | nil=>exact λ_=>.inr rfl
  | cons p l Γ=>
   intro h;obtain⟨j,a⟩:=p;simp only[aW];split
   ·exact .inl (h (j,a) (by simp))
   ·exact Γ λq Ψ=>h q (by simp[Ψ])
 have hi:=h i;rcases key env he with⟨v,e⟩|e
 ·rw[e] at hi ⊢;generalize t.getD i undef=u at hi;cases hi;exact .z _
 ·rw[e];exact .ca _
theorem v5 (H:υ):Holds eL [] [] H:=⟨λb o v h=>(by cases h),rfl,λid r bo h=>(by simp at h),λi j dT bW b fT fU _ h=>(by simp at h),λid r b N h=>(by simp at h)⟩
theorem e5.none {m nt:Nat} {S:al} {B:aH} {H H':υ} {env:Φ} {t:Array Value} (h:e5 m nt S B H [] env t) (he:∀p∈env,∃v,p.2=ζ.z v):e5 0 nt eL [] H' [] env t:=⟨v5 H',yR he h.b7,h.size,Nat.le_refl _⟩
section
variable {Q:Value->Prop} {mn:Bool} {x:aK} {c:Frame} {rest:List Frame} {S:al} {B:aH} {σ:List Row} {H:υ} {s m k:Nat} {sp:Spec} {v:Option (Nat×aD)} {t:Tok}
abbrev Gi (Q:Value->Prop) (mn:Bool) (x:aK) (c:Frame) (rest:List Frame) (H:υ) (s m:Nat) (w:Int) (t:Tok) (v:Option (Nat×aD)) (K:List Item) (env:Φ):Prop:=
 V Tryz.prog Q mn (one (bb x s t v 1)) (Frame.enter Tryz.prog 215 #[ptr m 0,.int .i32 w] .normal) (c::rest) 43 ⟨eL,[],H,[],0⟩ K env []
def yS (Q:Value->Prop) (mn:Bool) (x:aK) (c:Frame) (rest:List Frame) (H:υ) (s k d:Nat):Prop:=
 ∀(v:Option (Nat×aD)) (cV:al) (bH:υ),Ext eL [] H cV [] bH->b4 Tryz.prog Q mn (bb x s (.ch k .done .work) v d) (c.finish (.tuple #[])) rest bH
theorem Gj (η:ig x s m sp) (Ζ:yS Q mn x c rest H s k 1) {w:Int} {K:List Item} {env:Φ} (e:t=.ch k .done .work):Gi Q mn x c rest H s m w t v (.code .ret::K) env:=by
 letI:bh:=ev;have U:=η.seq;subst e;refine V.F6 (U _ _ _) rfl rfl rfl rfl Tryz.func215 rfl λbr bB H1 κ ψ=>?_;obtain rfl:bB=[]:=dk.1 ψ.len;rintro y rfl;exact Ζ v br H1 κ.ext
def LH (k:Nat) (ο:aD) (t:Tok):Prop:=((ο.nw=0\/ο.bY=1\/ο.wk=1\/ο.sv=1)/\t=.ch k .done .work)\/(0<ο.nw/\ο.bY=0/\ο.wk=0/\ο.sv=0/\t=.ch k .uc .work)
theorem LI (η:ig x s m sp) (Ζ:yS Q mn x c rest H s k 1) {w:Int}:∀(N φ:Nat) (ο:aD) (t:Tok),φ<N->ο.bY<=1->ο.wk<=1->ο.sv<=1->ο.nw<7->LH k ο t->
  Gi Q mn x c rest H s m w t (some (φ,ο)) (.code Gh::LG) [(0,.z (ptr m 0)),(4,.z (.int .i32 (mwd ο)))]:=by
 letI:bh:=ev;have U:=η.seq;intro N
 induction N with
 | zero=>intro φ ο t h;omega
 | succ N yP=>
  intro φ ο t b8 Β hw oH Ι Η;have o4:=U5 ο.bY (by omega) ο.wk (by omega) ο.sv (by omega) ο.nw (by omega);have kK:=Gc ο.bY (by omega) ο.wk (by omega) ο.sv (by omega) ο.nw (by omega);rw[<-nL] at o4 kK;have back:∀(b1:Nat) (gW:aD) (t':Tok),b1<N->gW.bY<=1->gW.wk<=1->gW.sv<=1->gW.nw<7->LH k gW t'->Gi Q mn x c rest H s m w t' (some (b1,gW)) LG [(0,.z (ptr m 0)),(4,.z (.int .i32 (mwd gW)))]:=λb1 gW t' J R ς Κ aF aV=>by
   have:=yP b1 gW t' J R ς Κ aF aV;refine V.a0 (U _ _ _) rfl ?_;exact W.inLoop (.stop this)
  refine V.a0 (U _ _ _) rfl ?_;unfold Gh LF
  repeat first|apply aO|apply aP|apply aQ|apply wd
  rcases Η with⟨Η,rfl⟩|⟨J,R,ς,Κ,rfl⟩
  ·by_cases Ν:ο.nw=0
   ·rw[Ν] at kK;(repeat (first|apply aO|apply aP|apply aQ|apply wd|refine ax rfl ?_|refine au rfl ?_|(refine ξ λθ I=>?_;simp;(repeat (rw[ε];simp[kK]));apply I)));exact .stop (Gj η Ζ rfl)
   ·have fY:¬ff .i32 (mwd ο) 7=0:=by rw[o4];omega
    have Du:(ff .i32 (mwd ο) 7 != 0)=true:=by simpa using fY
    (repeat (first|apply aO|apply aP|apply aQ|apply wd|refine ax rfl ?_|refine au rfl ?_|(refine ξ λθ I=>?_;simp;(repeat (rw[ε];simp[kK,Ν,fY,Du]));apply I)));exact .stop (Gj η Ζ rfl)
  ·have Ν:¬ο.nw=0:=by omega
   have n2:¬(ο.nw:Int)=0:=by omega
   have Cp:mwd ο=gg 0 0 0 ο.nw:=by rw[nL,R,ς,Κ]
   have wU:=Vx ο.nw (by omega) J;rw[<-Cp] at wU;rw[R,ς,Κ] at o4;(repeat (first|apply aO|apply aP|apply aQ|apply wd|refine ax rfl ?_|refine au rfl ?_|(refine ξ λθ I=>?_;simp;(repeat (rw[ε];simp[kK,Ν,n2,o4]));apply I)));refine W.b0 ?_;refine W.part (A:=[]) Μ [0,1,2,3,4] [5] rfl λθ I=>?_;(try simp);(repeat (rw[ε];simp[wU]));(try simp[wU]);apply I;refine W.stop ?_;refine V.Cd (U _ _ _).here (Nat.succ_pos _) (sp:=sp) η.spec (by rw[bP];exact id) η.aI ⟨⟨rfl,rfl,by simp[Frame.enter],rfl⟩,Cl,⟨_,rfl⟩,rfl,rfl,rfl⟩ (λgh fh ν hv=>.inl ?_) (λgh fh ν hv=>?_)
   ·have oj:=ν.view φ ο nK
    have aF:gh<φ:=by
     rcases Nat.lt_or_ge gh φ with h|h
     ·exact h
     ·exact absurd (by rw[oj.2 (by omega)]) hv
    unfold g8;rw[jf];refine V.a0 (U _ _ _) rfl ?_;refine W.bm ?_;refine au rfl ?_
    repeat first|apply aO|apply aP|apply aQ|apply wd
    refine W.b0 ?_;refine W.part (A:=[]) Μ [0,1,2] [3,4] rfl λθ I=>?_;(try simp);(repeat (rw[ε];simp));apply I;refine W.stop ?_;refine V.vX (U _ _ _).here (sp:=sp) η.spec (by rw[bP];exact id) ⟨rfl,rfl,by simp[Frame.enter],rfl⟩ rfl rfl rfl vY rfl (by kernel_rfl) mwd (λο w ω bk=>bk.dn (by rw[ω];exact η.aI)) (λgV e9 dG=>?_);have vG:=dG.view gh fh nK;have eI:=dG.ie.lV;have fN:=yN η dG.spec;have Ξ:=eI.bY;have aa:=eI.wk;have aM:=eI.sv;have b9:=eI.nw;by_cases rC:e9.nw=0\/e9.bY=1\/e9.wk=1\/e9.sv=1
    ·refine .inr ⟨.ch k .done .work,by rw[bP];exact .Oi rC,λvZ dX=>?_⟩;rw[gf];refine V.a0 (U _ _ _) rfl ?_;refine W.part (A:=[]) Μ [4] [] rfl λθ I=>?_;(try simp);(repeat (rw[ε];simp));(try simp[]);apply I;refine W.bm ?_
     repeat (first|apply aO|apply aP|apply aQ|apply wd)
     refine W.forget [(0,.z (ptr m 0)),(4,.z (.int .i32 (mwd e9)))] (by simp) (.stop ?_);exact back vZ e9 _ (by omega) Ξ aa aM (by omega) (.inl ⟨rC,rfl⟩)
    ·refine .inl ?_;unfold g8;rw[jf];refine V.a0 (U _ _ _) rfl ?_;refine W.part (A:=[]) Μ [4] [] rfl λθ I=>?_;(try simp);(repeat (rw[ε];simp));(try simp[]);apply I;refine W.bm ?_
     repeat (first|apply aO|apply aP|apply aQ|apply wd)
     refine W.forget [(0,.z (ptr m 0)),(4,.z (.int .i32 (mwd e9)))] (by simp) (.stop ?_);exact back gV e9 _ (by omega) Ξ aa aM (by omega) (.inr ⟨by omega,by omega,by omega,by omega,rfl⟩)
   ·have h3:=ν.ie.lV
    have fN:=yN η ν.spec
    have f1:=h3.bY;have f2:=h3.wk;have f3:=h3.sv;have f4:=h3.nw
    have f5:fh.bY=0/\fh.wk=0/\fh.sv=0/\fh.nw=ο.nw:=by
     rw[Cp] at hv;simp only[mwd,gg] at hv;omega
    refine⟨{fh with nw:=fh.nw-1,wk:=1},.ch k .us .work,?_,rfl,⟨rfl,rfl,rfl⟩,by rw[bP];exact .Oh (by omega) (by omega) (by omega) (by omega),λgV dX=>?_⟩
    ·simp[nL,f5]
    ·rw[gf];refine V.a0 (U _ _ _) rfl ?_;refine W.bm ?_;refine ax rfl ?_
     repeat first|apply aO|apply aP|apply aQ|apply wd
     refine W.b0 ?_;refine W.part (A:=[]) Μ [0,1,2] [3] rfl λθ I=>?_;(try simp);(repeat (rw[ε];simp));apply I;refine W.stop ?_;refine V.Lj (U _ _ _).here (sp:=sp) η.spec (by rw[bP];exact id) η.aI (vs:=[ptr m 1,.bool false,.int .i64 2]) rfl ⟨⟨rfl,rfl,by simp[Frame.enter],rfl⟩,Lt,⟨_,rfl⟩,rfl,rfl,rfl⟩ (λvZ da pY=>?_);have jk:=pY.ie.lV;refine⟨by have:=jk.cM;omega,{da with cM:=da.cM+1},.ch k .done .work,rfl,rfl,⟨rfl,rfl,rfl⟩,by rw[bP];exact .post,λyT cΜ=>?_⟩;rw[gf];refine V.a0 (U _ _ _) rfl ?_;refine W.bm (.stop ?_);exact Gj η Ζ rfl
theorem Vz (η:ig x s m sp) (Ζ:yS Q mn x c rest H s k 1) {ο:aD} {φ:Nat} (ω:ο.toSpec=sp) (Cq:ο.bY=0) (yB:ο.wk<=1) (md:ο.sv<=1) (LJ:ο.nw<7)
  (Η:(ο.sv=0/\(ο.nw=0\/ο.wk=1)/\t=.ch k .done .work)\/(ο.sv=0/\0<ο.nw/\ο.wk=0/\t=.ch k .uc .work)\/(ο.sv=1/\t=.ch k .us .work)) :
  b4 Tryz.prog Q mn (bb x s t (some (φ,ο)) 1) (Frame.enter Tryz.prog 215 #[ptr m 0,.int .i32 (mwd ο)] .normal) (c::rest) H:=by
 letI:bh:=ev;have U:=η.seq;have dU:=Vy ο.wk (by omega) ο.sv (by omega) ο.nw (by omega);have cg:=Ga 0 (by omega) ο.wk (by omega) ο.sv (by omega) ο.nw (by omega);have Cp:mwd ο=gg 0 ο.wk ο.sv ο.nw:=by rw[nL,Cq]
 rw[<-Cp] at dU cg;refine V.oL (z:=one _) (vs:=[ptr m 0,.int .i32 (mwd ο)]) (S:=eL) Tryz.func215 rfl (v5 H) (by simp[Tryz.ntmps215]) ?_ _ rfl;refine V.a0 (U _ _ _) rfl ?_;rcases Η with⟨J,R,rfl⟩|⟨J,R,ς,rfl⟩|⟨J,rfl⟩
 ·rw[J] at cg;(repeat (first|apply aO|apply aP|apply aQ|apply wd|refine ax rfl ?_|refine au rfl ?_|(refine ξ λθ I=>?_;simp;(repeat (rw[ε];simp[dU,cg]));apply I)));refine W.loop ?_;refine W.forget [(0,.z (ptr m 0)),(4,.z (.int .i32 (mwd ο)))] (by simp) (.stop ?_);exact LI η Ζ (φ+1) φ ο _ (Nat.lt_succ_self _) (by omega) yB md LJ (.inl ⟨R.imp id λh=>.inr (.inl h),rfl⟩)
 ·rw[J] at cg;(repeat (first|apply aO|apply aP|apply aQ|apply wd|refine ax rfl ?_|refine au rfl ?_|(refine ξ λθ I=>?_;simp;(repeat (rw[ε];simp[dU,cg]));apply I)));refine W.loop ?_;refine W.forget [(0,.z (ptr m 0)),(4,.z (.int .i32 (mwd ο)))] (by simp) (.stop ?_);exact LI η Ζ (φ+1) φ ο _ (Nat.lt_succ_self _) (by omega) yB md LJ (.inr ⟨R,Cq,ς,J,rfl⟩)
 ·rw[J] at cg;(repeat (first|apply aO|apply aP|apply aQ|apply wd|refine ax rfl ?_|refine au rfl ?_|(refine ξ λθ I=>?_;simp;(repeat (rw[ε];simp[dU,cg]));apply I)));refine W.b0 ?_;refine W.part (A:=[]) Μ [0,1,2] [3] rfl λθ I=>?_;(try simp);(repeat (rw[ε];simp));apply I;refine W.stop ?_;refine V.Lj (U _ _ _).here (sp:=sp) η.spec (by rw[bP];exact id) η.aI (vs:=[ptr m 1,.bool true,.int .i64 2]) rfl ⟨⟨rfl,rfl,by simp[Frame.enter],rfl⟩,Lt,⟨_,rfl⟩,rfl,rfl,rfl⟩ (λgh fh ν=>?_);have h3:=ν.ie.lV;refine⟨by have:=h3.cM;omega,{fh with cM:=fh.cM+1},.ch k .done .work,rfl,rfl,⟨rfl,rfl,rfl⟩,by rw[bP];exact .post,λgV dX=>?_⟩;rw[gf];refine V.a0 (U _ _ _) rfl ?_;refine W.bm (.stop ?_);refine V.Cf (U _ _ _) rfl rfl rfl rfl Tryz.func215 rfl λbr bB H1 κ ψ=>?_;obtain rfl:bB=[]:=dk.1 ψ.len;rintro y rfl;exact Ζ _ br H1 κ.ext
end
noncomputable def yU:Code:=Tryz.f176.body.getD .skip
theorem VA:(Tryz.prog.funcs[176]?).any (·.norace)=true:=by kernel_rfl
section
variable {Q:Value->Prop} {mn:Bool} {x:aK} {c:Frame} {rest:List Frame} {S:al} {B:aH} {σ:List Row} {H:υ} {s m k:Nat} {sp:Spec} {v:Option (Nat×aD)} {t:Tok}
abbrev LK (Q:Value->Prop) (mn:Bool) (x:aK) (c:Frame) (rest:List Frame) (H:υ) (s m:Nat) (t:Tok) (v:Option (Nat×aD)) (d:Nat) (K:List Item) (env:Φ):Prop:=
 V Tryz.prog Q mn (one (bb x s t v d)) (Frame.enter Tryz.prog 176 #[ptr m 0] .normal) (c::rest) 21 ⟨eL,[],H,[],0⟩ K env []
theorem LL {aj:al} {H H':υ} (h:Ext eL [] H aj [] H'):Ext eL [] H eL [] H':=
 ⟨λb o v h=>(by cases h),λb hb ab=>h.e' b hb ab,λb hb=>h.blocks b hb,λb o v h=>(by cases h),h.grow⟩
theorem LM (η:ig x s m sp) (Ζ:yS Q mn x c rest H s k 0) {env:Φ}:LK Q mn x c rest H s m (.ch k .done .work) v 1 [.code (du [1,1,1] yU)] env:=by
 letI:bh:=ev;have U:=η.seq;refine V.a0 (U _ _ _) rfl ?_;unfold yU;refine W.b0 (.stop ?_);refine V.enable (U _ _ _).here (Nat.succ_pos _) ⟨⟨rfl,rfl,by simp[Frame.enter],rfl⟩,sw,⟨_,rfl⟩,rfl,rfl,rfl⟩ ?_;rw[yG];refine V.a0 (U _ _ _) rfl ?_;refine W.bm (.stop ?_);refine V.Cf (U _ _ _) rfl rfl rfl rfl Tryz.func176 rfl λbr bB H1 κ ψ=>?_;obtain rfl:bB=[]:=dk.1 ψ.len;rintro y rfl;exact Ζ _ br H1 κ.ext
theorem VB (η:ig x s m sp) (ψ:Holds S B σ H) {L:List Nat}
  (cS:∀(aj:al) (H':υ),Ext S [] H aj [] H'->Holds aj [] [] H'->∃H1 E,Split H' H1 E/\sp.bw (L++[k]) E/\yS Q mn x c rest H1 s k 0) :
  b4 Tryz.prog Q mn (bb x s (.ch k (.cW L) .work) v 0) (Frame.enter Tryz.prog 176 #[ptr m 0] .normal) (c::rest) H:=by
 letI:bh:=ev;have U:=η.seq;refine V.oL (z:=one _) (vs:=[ptr m 0]) Tryz.func176 rfl ψ (by simp[Tryz.ntmps176]) ?_ _ rfl;refine V.a0 (U _ _ _) rfl ?_
 repeat first|apply aO|apply aP|apply aQ|apply wd
 refine ax rfl ?_
 repeat first|apply aO|apply aP|apply aQ|apply wd
 refine W.b0 ?_;refine W.part (A:=[]) Μ [0,1,2] [3] rfl λθ I=>?_;(try simp);(repeat (rw[ε];simp));apply I;refine W.stop ?_;refine V.vX (U _ _ _).here (sp:=sp) η.spec (by rw[bP];exact id) ⟨rfl,rfl,by simp[Frame.enter],rfl⟩ rfl rfl rfl vY rfl VA mwd (λο w ω bk=>bk.dn (by rw[ω];exact η.aI)) (λgh fh pZ=>.inl ?_);unfold g8;rw[jf];refine V.a0 (U _ _ _) rfl ?_;refine W.bm ?_
 repeat first|apply aO|apply aP|apply aQ|apply wd
 refine W.forget [(0,.z (ptr m 0))] (by simp) ?_;refine W.b0 ?_;refine W.part (A:=[]) Μ [0] [1,2] rfl λθ I=>?_;(try simp);(repeat (rw[ε];simp));apply I;refine W.stop ?_;refine V.conv (U _ _ _).here (sp:=sp) η.spec (by rw[bP];exact id) ⟨rfl,rfl,by simp[Frame.enter],rfl⟩ rfl rfl rfl Gd sx Ge rfl (λο w ω bk=>⟨_,bk.dn (by rw[ω];exact η.aI)⟩) (λφ ο ν=>?_);unfold g8;rw[jf];refine V.DX η.rel rfl (sp:=sp) (L:=L) η.spec η.aI bP ⟨⟨rfl,rfl,by simp[Frame.enter],rfl⟩,Ln,⟨_,rfl⟩,rfl,rfl,rfl⟩ λbr bB H1 t1 κ χ=>?_;obtain rfl:bB=[]:=dk.1 χ.holds.len;obtain⟨bH,E,Ξ,aa,aM⟩:=cS br H1 κ.ext χ.holds;refine⟨bH,E,Ξ,aa,?_⟩;rw[gf];refine V.here (x:=one _) (S:=eL) (B:=[]) (σ:=[]) (m:=0) (nt:=21) ?_ (χ.none (by simp)) _ rfl;refine V.a0 (U _ _ _) rfl ?_;refine W.bm ?_
 repeat first|apply aO|apply aP|apply aQ|apply wd
 refine W.b0 (.stop ?_);refine V.disable (U _ _ _).here ⟨⟨rfl,rfl,by simp[Frame.enter],rfl⟩,yK,⟨_,rfl⟩,rfl,rfl,rfl⟩ ?_;rw[yF];refine V.a0 (U _ _ _) rfl ?_;refine W.bm ?_
 repeat first|apply aO|apply aP|apply aQ|apply wd
 refine W.b0 ?_;refine W.part (A:=[]) Μ [0,1,2] [3,4] rfl λθ I=>?_;(try simp);(repeat (rw[ε];simp));apply I;refine W.stop ?_;refine V.Ld (U _ _ _).here (Nat.succ_pos _) (sp:=sp) η.spec (by rw[bP];exact id) η.aI ⟨⟨rfl,rfl,by simp[Frame.enter],rfl⟩,Lp,⟨_,rfl⟩,rfl,rfl,rfl⟩ (λvZ da pY=>?_);have jk:=pY.ie.lV;rw[bP] at jk;have Cq:=jk.hold rfl;have fN:=yN η pY.spec;have f1:=jk.wk;have f2:=jk.sv;have f3:=jk.nw;have LN:mwd {da with bY:=0}=IntKind.i32.wrap (mwd da+-1):=by simp only[mwd,IntKind.wrap_i32,Cq];omega
 have go:∀(t:Tok) (b1:Nat),(da.sv=0/\(da.nw=0\/da.wk=1)/\t=.ch k .done .work)\/(da.sv=0/\0<da.nw/\da.wk=0/\t=.ch k .uc .work)\/(da.sv=1/\t=.ch k .us .work)->
   LK Q mn x c rest bH s m t (some (b1,{da with bY:=0})) 1 [.code (du [1,1,0] yU),.code (du [1,1,1] yU)] [(0,.z (ptr m 0)),(2,.z (.int .i32 (mwd {da with bY:=0})))]:=λt b1 Η=>by
  refine V.a0 (U _ _ _) rfl ?_;unfold yU
  repeat first|apply aO|apply aP|apply aQ|apply wd
  by_cases Ν:mwd {da with bY:=0}=0
  ·(repeat (first|apply aO|apply aP|apply aQ|apply wd|refine ax rfl ?_|refine au rfl ?_|(refine ξ λθ I=>?_;simp;(repeat (rw[ε];simp[Ν]));apply I)));have VC:t=.ch k .done .work:=by
    simp only[mwd] at Ν;rcases Η with⟨_,_,h⟩|⟨_,h,_⟩|⟨h,_⟩
    ·exact h
    ·omega
    ·omega
   subst VC;exact .stop (LM η aM)
  ·have n2:(mwd {da with bY:=0} != 0)=true:=by simpa using Ν
   (repeat (first|apply aO|apply aP|apply aQ|apply wd|refine ax rfl ?_|refine au rfl ?_|(refine ξ λθ I=>?_;simp;(repeat (rw[ε];simp[Ν,n2]));apply I)));refine W.b0 ?_;refine W.part (A:=[]) Μ [0,1] [2] rfl λθ I=>?_;(try simp);(repeat (rw[ε];simp));apply I;refine W.stop ?_;refine V.call (U _ _ _) ⟨rfl,rfl,by simp[Frame.enter],rfl⟩ rfl rfl rfl ⟨_,Tryz.func215,rfl,rfl⟩ λiK nF iL t4 VD q0 oA Gk=>?_;obtain rfl:=lE (l:=[ptr m 0,.int .i32 (mwd {da with bY:=0})]) Gk;obtain rfl:nF=[]:=dk.1 oA.holds.len;rintro y rfl;refine Vz η (λcΝ hB gU yV=>?_) (by exact pY.spec) rfl f1 f2 (by show da.nw<7;omega) Η;rw[ho rfl];have Cr:Ext eL [] bH eL [] gU:=(LL q0.ext).trans (LL yV);refine V.here (x:=one _) (S:=eL) (B:=[]) (σ:=[]) (m:=0) (nt:=21) ?_ ((oA.put (a:=mZ) rfl (.z _)).none (by simp)) _ rfl;refine V.a0 (U _ _ _) rfl ?_;refine W.bm (.stop ?_);exact LM η λv6 Gl Gm aV=>aM v6 Gl Gm (Cr.trans aV)
 by_cases md:da.sv=1
 ·refine⟨{da with bY:=0},.ch k .us .work,LN,rfl,⟨rfl,rfl,rfl⟩,by rw[bP];exact .Og md,λyT _=>?_⟩;rw[gf];refine V.a0 (U _ _ _) rfl ?_;refine W.part (A:=[]) Μ [4] [] rfl λθ I=>?_;(try simp);(repeat (rw[ε];simp));(try simp[]);apply I;refine W.bm ?_
  first|apply aO|apply aP|apply aQ|apply wd
  refine W.forget [(0,.z (ptr m 0)),(2,.z (.int .i32 (mwd {da with bY:=0})))] (by simp) (.stop ?_);exact go _ yT (.inr (.inr ⟨md,rfl⟩))
 ·have jq:da.sv=0:=by omega
  have step:∀(t:Tok),(da.sv=0/\(da.nw=0\/da.wk=1)/\t=.ch k .done .work)\/(da.sv=0/\0<da.nw/\da.wk=0/\t=.ch k .uc .work)->Act da (.ch k .fin .work) {da with bY:=0} t->∃o' t',mwd o'=IntKind.i32.wrap (mwd da+-1)/\o'.cM=da.cM/\vW da o'/\Act da (.ch k .fin .work) o' t'/\((da.sv=0/\(da.nw=0\/da.wk=1)/\t'=.ch k .done .work)\/(da.sv=0/\0<da.nw/\da.wk=0/\t'=.ch k .uc .work))/\o'={da with bY:=0}:=λt J R=>⟨_,t,LN,rfl,⟨rfl,rfl,rfl⟩,R,J,rfl⟩;obtain⟨o',t',er,fb,jQ,rT,rU,rfl⟩:∃o' t',mwd o'=IntKind.i32.wrap (mwd da+-1)/\o'.cM=da.cM/\vW da o'/\Act da (.ch k .fin .work) o' t'/\((da.sv=0/\(da.nw=0\/da.wk=1)/\t'=.ch k .done .work)\/(da.sv=0/\0<da.nw/\da.wk=0/\t'=.ch k .uc .work))/\o'={da with bY:=0}:=by
   by_cases Ι:da.nw=0\/da.wk=1
   ·exact step _ (.inl ⟨jq,Ι,rfl⟩) (.Oe jq Ι)
   ·exact step _ (.inr ⟨jq,by omega,by omega,rfl⟩) (.Of jq (by omega) (by omega))
  refine⟨_,t',er,fb,jQ,by rw[bP];exact rT,λyT _=>?_⟩;rw[gf];refine V.a0 (U _ _ _) rfl ?_;refine W.part (A:=[]) Μ [4] [] rfl λθ I=>?_;(try simp);(repeat (rw[ε];simp));(try simp[]);apply I;refine W.bm ?_
  first|apply aO|apply aP|apply aQ|apply wd
  refine W.forget [(0,.z (ptr m 0)),(2,.z (.int .i32 (mwd {da with bY:=0})))] (by simp) (.stop ?_);exact go _ yT (rU.imp id λh=>.inl h)
theorem b4.leaveD [bh] {P:Program} {Q:Value->Prop} {mn:Bool} {x:aK} {c b:Frame} {rest:List Frame} {H:υ} {t:Array Value} {ops:Array Oper} {fn:Func} (U:Seq (one x)) (hb:b.mode=.run) (bZ:b.roundOf=none) (eh:b.defers=[]) (fW:b.kind=.deferred) (cA:P.funcs[b.fn]?=some fn) (eB:fn.results=#[])
  (oS:c.mode=.returning) (h:b4 P Q mn x c rest H):b4 P Q mn x (ai b t [.inRegion ops []]) (c::rest) H:=by
 refine aB.bm (x:=one x) U hb (.qy U hb bZ (.Ei U rfl eh fW cA ?_)) x rfl;rw[results_none eB];refine π.pure' ?_;simp only[oS];intro y ad;cases ad;exact h
theorem VE (η:ig x s m sp) (ψ:Holds S B σ H) (oS:c.mode=.returning) {L:List Nat}
  (cS:∀(aj:al) (H':υ),Ext S [] H aj [] H'->Holds aj [] [] H'->∃H1 E,Split H' H1 E/\sp.bw (L++[k]) E/\∀(v:Option (Nat×aD)) (cV:al) (bH:υ),Ext eL [] H1 cV [] bH->b4 Tryz.prog Q mn (bb x s (.ch k .done .work) v 0) c rest bH) :
  b4 Tryz.prog Q mn (bb x s (.ch k (.cW L) .work) v 0) (Frame.enter Tryz.prog 145 #[ptr m 0] .deferred) (c::rest) H:=by
 letI:bh:=ev;have U:=η.seq;rw[oz (body:=Tryz.f145.body.getD .skip) Tryz.func145 rfl];refine V.here (x:=one _) (m:=0) (nt:=6) (env:=entry 0 [.z (ptr m 0)]) ?_ (e5.enter ψ.bare ⟨rfl,λi a v J R=>?_⟩ (Nat.le_refl _) (by simp)) _ rfl
 ·refine V.a0 (U _ _ _) rfl ?_;simp only[Tryz.f145,Option.getD_some]
  repeat first|apply aO|apply aP|apply aQ|apply wd
  refine W.b0 ?_;refine W.part (A:=[]) Μ [0,1,2] [3] rfl λθ I=>?_;(try simp);(repeat (rw[ε];simp));apply I;refine W.stop ?_;refine V.call (U _ _ _) ⟨rfl,rfl,by simp[Frame.enter],rfl⟩ rfl rfl rfl ⟨_,Tryz.func176,rfl,rfl⟩ λbr bB H1 t1 nE κ χ hv=>?_;obtain rfl:=lE (l:=[ptr m 0]) hv;obtain rfl:bB=[]:=dk.1 χ.holds.len;rintro y rfl;refine VB η χ.holds (L:=L) λcV bH j2 h6=>?_;obtain⟨ic,E,Ξ,aa,aM⟩:=cS cV bH (κ.ext.trans j2) h6;refine⟨ic,E,Ξ,aa,λv4 iK iL m1=>?_⟩;rw[ho rfl];refine b4.leaveD (U _ _ _) rfl rfl rfl rfl Tryz.func145 rfl oS ?_;exact aM v4 iK iL m1
 ·cases i with
  | zero=>simp at J R;subst J;subst R;exact .z _
  | succ i=>simp at J
end
end Go.TL
