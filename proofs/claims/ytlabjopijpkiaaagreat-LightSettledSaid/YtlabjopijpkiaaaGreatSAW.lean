import Derived.Test.YtlabjopijpkiaaaGreatSAV
set_option maxHeartbeats 16000000
set_option maxRecDepth 20000
set_option linter.unusedSectionVars false
set_option linter.unusedSimpArgs false
set_option linter.unusedVariables false
namespace Go.TL
open Go.Conc Go.Proofs
open Go.ConcN (sumTo upd sumTo_upd upd_ne upd_same sumTo_congr le_sumTo)
structure jd (x:aV) (s m:Nat) (sp:Spec):Prop where
 rel:x.rel=false
 aF:x.aF=λ_=>none
 spec:x.spec s=some sp
 aT:sp.aT=some m
 top:sp.top<7
 still:∀bq,bq≠s->nf (x.tok bq)
theorem jd.seq {x:aV} {s m:Nat} {sp:Spec} (h:jd x s m sp):∀t v d,@Seq ep (one (bw x s t v d)):=λt v d=>@Seq.uE ep _ trivial h.rel h.aF
theorem cn.ZS [bm] {P:Program} {Q:Value->Prop} {mn:Bool} {x:aV} {c b:Frame} {rest:List Frame} {H:Α} {t:Array Value} {ops:Array Oper} {k:List Item} {fn:Func} (U:Seq (one x)) (hb:b.mode=.run) (cd:b.roundOf=none) (eC:b.defers=[]) (gJ:b.kind=.normal) (cf:P.funcs[b.fn]?=some fn) (eT:fn.results=#[])
  (h:cn P Q mn x (c.finish (.tuple #[])) rest H):cn P Q mn x (ar b t (.inRegion ops []::.code .ret::k)) (c::rest) H:=by
 refine aM.bF (x:=one x) U hb (.ret U hb cd (.back U rfl eC (.inl gJ) cf ?_)) x rfl;rw[results_none eT];exact υ.pure' (λy Ξ=>by cases Ξ;exact h)
abbrev ptr (b o:Nat):Value:=.pointer (some ⟨b,o,none⟩)
section
variable {Q:Value->Prop} {mn:Bool} {x:aV} {c:Frame} {rest:List Frame} {S:aB} {B:aR} {σ:List Row} {H:Α} {s m k:Nat} {sp:Spec} {v:Option (Nat×aN)}
def s' (Q:Value->Prop) (mn:Bool) (x:aV) (c:Frame) (rest:List Frame) (S:aB) (H:Α) (s k:Nat) (sp:Spec):Prop:=
 ∀(ax:aB) (H':Α) (L:List Nat) (E:Α),Ext S [] H ax [] H'->Holds ax [] [] H'->sp.aH L E->Apart H' E->(L.Nodup/\k∉L/\∃w,Fits H' w/\Fits E w)->cn Tryz.prog Q mn (bw x s (.ch k (.dc L) .work) none 0) (c.finish (.tuple #[])) rest (join H' E)
def Po (Q:Value->Prop) (mn:Bool) (x:aV) (s m k:Nat) (sp:Spec):Prop:=∀(c:Frame) (rest:List Frame) (S:aB) (B:aR) (σ:List Row) (H:Α) (v:Option (Nat×aN)),Holds S B σ H->s' Q mn x c rest S H s k sp->
 cn Tryz.prog Q mn (bw x s (.ch k (.act false) .work) v 1) (Frame.enter Tryz.prog 213 #[ptr m 0] .normal) (c::rest) H
theorem ZT (ζ:jd x s m sp) (Β:Holds S B σ H) (ZU:Po Q mn x s m k sp)
  (Κ:s' Q mn x c rest S H s k sp):cn Tryz.prog Q mn (bw x s (.ch k .idle .work) v 0) (Frame.enter Tryz.prog 175 #[ptr m 0] .normal) (c::rest) H:=by
 letI:bm:=ep;have U:=ζ.seq;refine V.qt (z:=one _) (vs:=[ptr m 0]) Tryz.func175 rfl Β (by simp[Tryz.ntmps175]) ?_ _ rfl;refine V.bh (U _ _ _) rfl ?_
 repeat first|apply aZ|apply wb|apply a2|apply wd
 refine W.cj (.stop ?_);refine V.disable (U _ _ _).here ⟨⟨rfl,rfl,by simp[Frame.enter],rfl⟩,AI,⟨_,rfl⟩,rfl,rfl,rfl⟩ ?_;rw[AE];refine V.bh (U _ _ _) rfl ?_;refine W.bF ?_
 repeat first|apply aZ|apply wb|apply a2|apply wd
 refine W.cj ?_;refine W.part (A:=[]) Ι [0,1,2] [3] rfl λη I=>?_;(try simp);(repeat (rw[δ];simp));apply I;refine W.stop ?_;refine V.Et (U _ _ _).here (Nat.succ_pos _) (sp:=sp) ζ.spec (by rw[b2];exact id) ζ.aT ⟨⟨rfl,rfl,by simp[Frame.enter],rfl⟩,EA,⟨_,rfl⟩,rfl,rfl,rfl⟩ (λφ ς ο hv=>?_) (λφ ς ο hv=>?_)
 ·refine .inr ⟨.ch k (.act false) .work,by rw[b2];exact .Tb,λcl _=>?_⟩;rw[gT];refine V.bh (U _ _ _) rfl ?_;refine W.bF ?_
  repeat first|apply aZ|apply wb|apply a2|apply wd
  refine ah rfl ?_
  repeat first|apply aZ|apply wb|apply a2|apply wd
  refine W.cj ?_;refine W.part (A:=[]) Ι [0] [1] rfl λη I=>?_;(try simp);(repeat (rw[δ];simp));apply I;refine W.stop ?_;refine V.call (U _ _ _) ⟨rfl,rfl,by simp[Frame.enter],rfl⟩ rfl rfl rfl ⟨_,Tryz.func213,rfl,rfl⟩ λbJ bO H1 t1 pf ξ ψ hv=>?_;obtain rfl:=mV (l:=[ptr m 0]) hv;rintro y rfl;refine ZU _ _ bJ bO _ H1 _ ψ.holds λcT bN L E k6 iU dg iy wC=>?_;rw[h' rfl];refine cn.leave0 (U _ _ _) rfl rfl rfl rfl Tryz.func175 rfl ?_;obtain rfl:bO=[]:=dp.1 ψ.holds.len;exact Κ cT bN L E (ξ.ext.trans k6) iU dg iy wC
 ·have ag:ς.cb=0/\ς.sv=0/\ς.wk=0/\ς.nw=0:=by simp only[mwd] at hv;omega
  refine⟨{ς with cb:=1},.ch k .own .work,by simp[mwd];omega,rfl,⟨rfl,rfl,rfl⟩,by rw[b2];exact .Ta ag.1 ag.2.1 ag.2.2.1 ag.2.2.2,λcl _=>?_⟩;rw[gT];refine V.bh (U _ _ _) rfl ?_;refine W.bF ?_
  repeat first|apply aZ|apply wb|apply a2|apply wd
  refine aj rfl ?_
  repeat first|apply aZ|apply wb|apply a2|apply wd
  refine aj rfl ?_
  repeat first|apply aZ|apply wb|apply a2|apply wd
  refine W.cj (.stop ?_);refine V.enable (U _ _ _).here (Nat.succ_pos _) ⟨⟨rfl,rfl,by simp[Frame.enter],rfl⟩,uG,⟨_,rfl⟩,rfl,rfl,rfl⟩ ?_;rw[AF];refine V.bh (U _ _ _) rfl ?_;refine W.bF ?_
  repeat first|apply aZ|apply wb|apply a2|apply wd
  refine W.cj ?_;refine W.part (A:=[]) Ι [0] [1,2] rfl λη I=>?_;(try simp);(repeat (rw[δ];simp));apply I;refine W.stop ?_;refine V.conv (U _ _ _).here (sp:=sp) ζ.spec (by rw[b2];exact id) ⟨rfl,rfl,by simp[Frame.enter],rfl⟩ rfl rfl rfl I0 uH I1 rfl (λς w Γ bB=>⟨_,bB.dz (by rw[Γ];exact ζ.aT)⟩) (λφ ς ο=>?_);unfold h0;rw[kh];refine V.Ci ζ.rel rfl (sp:=sp) ζ.spec ζ.aT b2 ⟨⟨rfl,rfl,by simp[Frame.enter],rfl⟩,Ez,⟨_,rfl⟩,rfl,rfl,rfl⟩ λbJ bO H1 t1 L E ξ ψ dg iy wC=>?_;rw[gT];obtain rfl:bO=[]:=dp.1 ψ.holds.len;refine cn.ZS (U _ _ _) rfl rfl rfl rfl Tryz.func175 rfl ?_;exact Κ bJ H1 L E ξ.ext ψ.holds dg iy wC
end
def dC:List Nat->Code->Code
 | [],c=>c
 | 0::l,.seq a _=>dC l a
 | _::l,.seq _ b=>dC l b
 | 0::l,.cond _ a _=>dC l a
 | _::l,.cond _ _ b=>dC l b
 | _::l,.block _ c=>dC l c
 | _::l,.loop c=>dC l c
 | _,c=>c
noncomputable def qy:Code:=Tryz.f213.body.getD .skip
noncomputable def mX:Code:=dC [1,1,1,1,1,0,0,0] qy
noncomputable def qz:Code:=dC [0,1] mX
noncomputable def rH:Code:=dC [1,1,1,1,1] qz
noncomputable def mY:Code:=dC [1,0] rH
noncomputable def AJ:Code:=dC [1,1,1,1,1,1] qy
noncomputable def k7:List Item:=[.inLoop mX,.inBlock 0,.code AJ]
abbrev jN (Q:Value->Prop) (mn:Bool) (x:aV) (c:Frame) (rest:List Frame) (S:aB) (H:Α) (s m:Nat) (t:Tok) (v:Option (Nat×aN)) (d:Nat) (K:List Item) (env:aa):Prop:=
 V Tryz.prog Q mn (one (bw x s t v d)) (Frame.enter Tryz.prog 213 #[ptr m 0] .normal) (c::rest) 139 ⟨S,[],H,[],0⟩ K env []
def cR (m:Nat) (w:Int) (aw st:Bool) (it τ:Int):aa:=[(0,.z (ptr m 0)),(2,.z (.int .i64 τ)),(3,.z (.bool st)),(4,.z (.bool aw)),(5,.z (.int .i64 it)),(6,.z (.int .i32 w))]
def pw (a b c n:Nat) (aw st:Bool):Int:=
 if a=0/\c=0 then gU 1 (if aw then 0 else b) 0 n else gU a (if aw then 0 else b) (if st=true/\a=1 then 1 else c) (n+1)
section
variable {Q:Value->Prop} {mn:Bool} {x:aV} {c:Frame} {rest:List Frame} {S:aB} {B:aR} {σ:List Row} {H:Α} {s m k:Nat} {sp:Spec} {v:Option (Nat×aN)} {t:Tok}
theorem ZV (ζ:jd x s m sp) {a b dD n:Nat} {aw st:Bool} {it τ:Int} (ξ:a<2) (hb:b<2) (jz:dD<2) (Η:n<7) (ZW:aw=true->dD=0/\b=1) (cA:st=true->aw=true)
  (hC:jN Q mn x c rest S H s m t v 1 (.code (dC [0] rH)::.code (dC [1] rH)::.inBlock 1::k7) (cR m (gU a b dD n) aw st it τ++[(7,.z (.int .i32 (pw a b dD n aw st)))])) :
  jN Q mn x c rest S H s m t v 1 (.code qz::.inBlock 1::k7) (cR m (gU a b dD n) aw st it τ):=by
 letI:bm:=ep;have U:=ζ.seq;have hQ:(a=0\/a=1)/\(dD=0\/dD=1):=by omega
 have cy:=IX a ξ b hb dD jz n (by omega)
 have eZ:=IW a ξ b hb dD jz n (by omega)
 have Ζ:=ZE a ξ b hb dD jz n (by omega)
 have du:=ZF a ξ b hb dD jz n (by omega)
 have uI:=ZI a ξ b hb dD jz n Η;refine V.bh (U _ _ _) rfl ?_;unfold qz mX qy;cases aw with
 | false=>
  have ο:st=false:=by cases st<;>simp_all
  subst ο;rcases hQ with⟨rfl|rfl,rfl|rfl⟩
  ·(repeat (first|apply aZ|apply wb|apply a2|apply wd|refine aj rfl ?_|refine ah rfl ?_|(refine ν λη I=>?_;simp;(repeat (rw[δ];simp[cR,cy,eZ,du]));apply I)));exact W.forget _ (by simp[cR,pw]) (.stop hC)
  ·(repeat (first|apply aZ|apply wb|apply a2|apply wd|refine aj rfl ?_|refine ah rfl ?_|(refine ν λη I=>?_;simp;(repeat (rw[δ];simp[cR,cy,eZ,uI]));apply I)));exact W.forget _ (by simp[cR,pw]) (.stop hC)
  ·(repeat (first|apply aZ|apply wb|apply a2|apply wd|refine aj rfl ?_|refine ah rfl ?_|(refine ν λη I=>?_;simp;(repeat (rw[δ];simp[cR,cy,eZ,du,uI]));apply I)));exact W.forget _ (by simp[cR,pw]) (.stop hC)
  ·(repeat (first|apply aZ|apply wb|apply a2|apply wd|refine aj rfl ?_|refine ah rfl ?_|(refine ν λη I=>?_;simp;(repeat (rw[δ];simp[cR,cy,eZ,uI]));apply I)));exact W.forget _ (by simp[cR,pw]) (.stop hC)
 | true=>
  obtain⟨rfl,rfl⟩:=ZW rfl;rcases hQ with⟨rfl|rfl,-⟩
  ·have ej:=Ey 1 (by omega) 1 (by omega) 0 (by omega) n (by omega)
   have p2:=IY 1 (by omega) 1 (by omega) 0 (by omega) n (by omega);cases st
   ·(repeat (first|apply aZ|apply wb|apply a2|apply wd|refine aj rfl ?_|refine ah rfl ?_|(refine ν λη I=>?_;simp;(repeat (rw[δ];simp[cR,cy,eZ,du,ej,p2]));apply I)));exact W.forget _ (by simp[cR,pw]) (.stop hC)
   ·(repeat (first|apply aZ|apply wb|apply a2|apply wd|refine aj rfl ?_|refine ah rfl ?_|(refine ν λη I=>?_;simp;(repeat (rw[δ];simp[cR,cy,eZ,Ζ,du,ej,p2]));apply I)));exact W.forget _ (by simp[cR,pw]) (.stop hC)
  ·cases st
   ·have ej:=Ey 1 (by omega) 1 (by omega) 0 (by omega) (n+1) (by omega)
    have p2:=IY 1 (by omega) 1 (by omega) 0 (by omega) (n+1) (by omega);(repeat (first|apply aZ|apply wb|apply a2|apply wd|refine aj rfl ?_|refine ah rfl ?_|(refine ν λη I=>?_;simp;(repeat (rw[δ];simp[cR,cy,eZ,du,uI,ej,p2]));apply I)));exact W.forget _ (by simp[cR,pw]) (.stop hC)
   ·have iQ:=ZH 1 (by omega) 1 (by omega) 0 (by omega) (n+1) (by omega)
    have ej:=Ey 1 (by omega) 1 (by omega) 1 (by omega) (n+1) (by omega)
    have p2:=IY 1 (by omega) 1 (by omega) 1 (by omega) (n+1) (by omega);(repeat (first|apply aZ|apply wb|apply a2|apply wd|refine aj rfl ?_|refine ah rfl ?_|(refine ν λη I=>?_;simp;(repeat (rw[δ];simp[cR,cy,eZ,Ζ,du,uI,iQ,ej,p2]));apply I)));exact W.forget _ (by simp[cR,pw]) (.stop hC)
theorem Pp (ζ:jd x s m sp) (Κ:s' Q mn x c rest S H s k sp) {env:aa} (ag:a3 env 0=.z (ptr m 0)):jN Q mn x c rest S H s m (.ch k .own .work) v 1 [.code AJ] env:=by
 letI:bm:=ep;have U:=ζ.seq;refine V.bh (U _ _ _) rfl ?_;unfold AJ qy;refine aj rfl ?_
 repeat first|apply aZ|apply wb|apply a2|apply wd
 refine W.cj (.stop ?_);refine V.enable (U _ _ _).here (Nat.succ_pos _) ⟨⟨rfl,rfl,by simp[Frame.enter],rfl⟩,uG,⟨_,rfl⟩,rfl,rfl,rfl⟩ ?_;rw[AF];refine V.bh (U _ _ _) rfl ?_;refine W.bF ?_
 repeat first|apply aZ|apply wb|apply a2|apply wd
 refine W.cj ?_;refine W.part (A:=[]) Ι [0] [1,2] rfl λη I=>?_;simp;(repeat (rw[δ];simp[ag]));apply I;refine W.stop ?_;refine V.conv (U _ _ _).here (sp:=sp) ζ.spec (by rw[b2];exact id) ⟨rfl,rfl,by simp[Frame.enter],rfl⟩ rfl rfl rfl I0 uH I1 rfl (λς w Γ bB=>⟨_,bB.dz (by rw[Γ];exact ζ.aT)⟩) (λφ ς ο=>?_);unfold h0;rw[kh];refine V.Ci ζ.rel rfl (sp:=sp) ζ.spec ζ.aT b2 ⟨⟨rfl,rfl,by simp[Frame.enter],rfl⟩,Ez,⟨_,rfl⟩,rfl,rfl,rfl⟩ λbJ bO H1 t1 L E ξ ψ dg iy wC=>?_;rw[gT];obtain rfl:bO=[]:=dp.1 ψ.holds.len;refine cn.leave0 (U _ _ _) rfl rfl rfl rfl Tryz.func213 rfl ?_;exact Κ bJ H1 L E ξ.ext ψ.holds dg iy wC
end
section
variable {Q:Value->Prop} {mn:Bool} {x:aV} {c:Frame} {rest:List Frame} {S:aB} {B:aR} {σ:List Row} {H:Α} {s m k:Nat} {sp:Spec} {v:Option (Nat×aN)} {t:Tok}
theorem EB:(Tryz.prog.funcs[213]?).any (·.norace)=true:=by kernel_rfl
theorem Pq:(Tryz.prog.funcs[245]?).any (·.norace)=true:=by kernel_rfl
def AK (Q:Value->Prop) (mn:Bool) (x:aV) (c:Frame) (rest:List Frame) (S:aB) (H:Α) (s m k:Nat) (sp:Spec) (φ:Nat):Prop:=
 ∀(cl:Nat) (ς:aN) (aw st:Bool) (it τ:Int),cl<φ->ς.toSpec=sp->s7 ς (.ch k (.act aw) .work)->(st=true->aw=true)->0<=it->it<=4->jN Q mn x c rest S H s m (.ch k (.act aw) .work) (some (cl,ς)) 1 k7 (cR m (mwd ς) aw st it τ)
theorem Pr {ς:aN} {aw:Bool} (h:s7 ς (.ch k (.act aw) .work)):aw=true->ς.sv=0/\ς.wk=1:=λe=>h.BO (by rw[e];rfl)
theorem ZX (ζ:jd x s m sp) (Κ:s' Q mn x c rest S H s k sp) {φ:Nat} (Δ:AK Q mn x c rest S H s m k sp φ) {gD:Nat} {k8:aN} (ag:gD<φ) {st:Bool} {τ:Int} :
  jN Q mn x c rest S H s m (.ch k .wk .work) (some (gD,k8)) 1 (.code (dC [1,1,1,1,1] mY)::.inBlock 1::k7) [(0,.z (ptr m 0)),(2,.z (.int .i64 τ)),(3,.z (.bool st))]:=by
 letI:bm:=ep;have U:=ζ.seq;refine V.bh (U _ _ _) rfl ?_;unfold mY rH qz mX qy
 repeat first|apply aZ|apply wb|apply a2|apply wd
 refine W.cj ?_;refine W.part (A:=[]) Ι [0,1,2] [3,4] rfl λη I=>?_;(try simp);(repeat (rw[δ];simp));apply I;refine W.stop ?_;refine V.yd (U _ _ _).here (sp:=sp) ζ.spec (by rw[b2];exact id) ⟨rfl,rfl,by simp[Frame.enter],rfl⟩ rfl rfl rfl ye rfl EB mwd (λς w Γ bB=>bB.dz (by rw[Γ];exact ζ.aT)) (λgV ς ο=>.inr ?_);have χ:=ο.jc.ng;rw[b2] at χ;have hv:=ο.view gD k8 pt;have Ps:=χ.y1 rfl;have gB:ς.top<7:=by have:=ζ.top;rw[show ς.top=sp.top by rw[<-ο.spec]];exact this
 have Η:=χ.nw
 have ω:=χ.cb;have hw:=χ.wk;have qp:=χ.sv
 have cy:=IX ς.cb (by omega) ς.wk (by omega) ς.sv (by omega) ς.nw (by omega)
 have aY:=ZC ς.cb (by omega) ς.wk (by omega) ς.sv (by omega) ς.nw (by omega)
 have lZ:=IZ ς.cb (by omega) ς.wk (by omega) ς.sv (by omega) ς.nw (by omega);rw[<-pv] at cy aY lZ;rcases(show ς.sv=0\/ς.sv=1 by omega) with nI|nI
 ·refine⟨.ch k (.act true) .work,by rw[b2];exact .norm nI,λcl eg=>?_⟩;rw[gT];rw[nI] at cy;refine V.bh (U _ _ _) rfl ?_;refine W.part (A:=[]) Ι [4] [] rfl λη I=>?_;(try simp);(repeat (rw[δ];simp));(try simp[]);apply I;refine W.bF ?_;(repeat (first|apply aZ|apply wb|apply a2|apply wd|refine aj rfl ?_|refine ah rfl ?_|(refine ν λη I=>?_;simp;(repeat (rw[δ];simp[cy]));apply I)));refine W.forget (cR m (mwd ς) true st 0 τ) (by simp[cR]) (.stop ?_);exact Δ cl ς true st 0 τ (by omega) ο.spec ⟨χ.cb,χ.wk,χ.sv,χ.cX,χ.nw,λ_=>⟨nI,Ps.1 nI⟩,λh=>(by cases h),λh=>(by cases h),λh=>(by cases h)⟩ (λ_=>rfl) (by omega) (by omega)
 ·obtain⟨Τ,af,aX⟩:=Ps.2 nI;refine⟨.ch k .hw .work,by rw[b2];exact .hand nI,λcl eg=>?_⟩;rw[gT];rw[nI] at cy;rw[Τ,af] at aY;have bz:¬ς.nw=0:=by omega
  have Pt:IntKind.i32.wrap (-11)=-11:=by decide
  have fin:∀(w:Option (Nat×aN)) (env:aa),a3 env 0=.z (ptr m 0)->jN Q mn x c rest S H s m (.ch k .own .work) w 1 [.code AJ] env:=λw env h=>Pp ζ Κ h
  have add:∀(qN:Bool) (env:aa),a3 env 0=.z (ptr m 0)->a3 env 9=.z (.int .i32 (if qN then -11 else -7))->jN Q mn x c rest S H s m (.ch k .hw .work) (some (cl,ς)) 1 (.code (dC [1,1,1,1,1,1,0,1,0,1,1,1,0] mY)::.code (dC [1,1,1,1,1,1,0,1,0,1,1,1,1] mY)::.code (dC [1,1,1,1,1,1,1] mY)::.inBlock 1::k7) env:=λqN env ag tw=>by
   refine V.bh (U _ _ _) rfl ?_;unfold mY rH qz mX qy
   repeat first|apply aZ|apply wb|apply a2|apply wd
   refine W.cj ?_;refine W.part (A:=[]) Ι [0,1,2,3] [4] rfl λη I=>?_;(try simp);(repeat (rw[δ];simp[ag,tw]));(try simp[ag,tw]);apply I;refine W.stop ?_;refine V.O2 (U _ _ _).here (Nat.succ_pos _) (sp:=sp) ζ.spec (by rw[b2];exact id) ζ.aT (d:=if qN then -11 else -7) ⟨⟨rfl,rfl,by simp[Frame.enter],rfl⟩,Pg,⟨_,rfl⟩,rfl,rfl,rfl⟩ (λhK fB dP=>?_);have dW:=dP.jc.ng;rw[b2] at dW;obtain⟨f1,f2,f3,f4⟩:=dW.hw rfl;have lΑ:fB.top<7:=by have:=ζ.top;rw[show fB.top=sp.top by rw[<-dP.spec]];exact this
   have Ap:=dW.nw;refine⟨{fB with cb:=1,nw:=fB.nw-1,sv:=if qN then 0 else 1},.ch k .own .work,?_,rfl,⟨rfl,rfl,rfl⟩,by rw[b2];exact .hacq qN,λyf _=>?_⟩
   ·cases qN<;>simp[mwd,IntKind.wrap_i32,f1,f2,f3]<;>omega
   ·rw[gT];refine V.bh (U _ _ _) rfl ?_;refine W.bF ?_
    repeat first|apply aZ|apply wb|apply a2|apply wd
    refine W.exit rfl (.stop ?_);refine fin _ _ ?_;simp[ag]
  refine V.bh (U _ _ _) rfl ?_;refine W.part (A:=[]) Ι [4] [] rfl λη I=>?_;(try simp);(repeat (rw[δ];simp));(try simp[]);apply I;refine W.bF ?_;cases st with
  | false=>
   (repeat (first|apply aZ|apply wb|apply a2|apply wd|refine aj rfl ?_|refine ah rfl ?_|(refine ν λη I=>?_;simp;(repeat (rw[δ];simp[cy,aY,lZ,bz,Pt]));apply I)));exact .stop (add true _ rfl rfl)
  | true=>
   by_cases J:ς.nw=1
   ·(repeat (first|apply aZ|apply wb|apply a2|apply wd|refine aj rfl ?_|refine ah rfl ?_|(refine ν λη I=>?_;simp;(repeat (rw[δ];simp[cy,aY,lZ,bz,J,Pt]));apply I)));exact .stop (add true _ rfl rfl)
   ·have xv:¬(ς.nw:Int)=1:=by omega
    (repeat (first|apply aZ|apply wb|apply a2|apply wd|refine aj rfl ?_|refine ah rfl ?_|(refine ν λη I=>?_;simp;(repeat (rw[δ];simp[cy,aY,lZ,bz,J,xv]));apply I)));exact .stop (add false _ rfl rfl)
theorem ZY (ζ:jd x s m sp) (Κ:s' Q mn x c rest S H s k sp) {φ:Nat} (Δ:AK Q mn x c rest S H s m k sp φ) {gD:Nat} {k8:aN} (ag:gD<φ) {st y:Bool} {τ:Int} :
  jN Q mn x c rest S H s m (.ch k .q .work) (some (gD,k8)) 1 (.code (dC [1,1,1,0] mY)::.code (dC [1,1,1,1] mY)::.inBlock 1::k7) [(0,.z (ptr m 0)),(2,.z (.int .i64 τ)),(3,.z (.bool st)),(8,.z (.bool y))]:=by
 letI:bm:=ep;have U:=ζ.seq;have next:∀(gV:Nat) (fN:aN) (st:Bool),gV<φ->jN Q mn x c rest S H s m (.ch k .wk .work) (some (gV,fN)) 1 (.code (dC [1,1,1,1,1] mY)::.inBlock 1::k7) [(0,.z (ptr m 0)),(2,.z (.int .i64 τ)),(3,.z (.bool st))]:=λgV fN st J=>ZX ζ Κ Δ J
 refine V.bh (U _ _ _) rfl ?_;unfold mY rH qz mX qy
 repeat first|apply aZ|apply wb|apply a2|apply wd
 refine W.cj ?_;refine W.part (A:=[]) Ι [0,1,2,3] [4] rfl λη I=>?_;(try simp);(repeat (rw[δ];simp));apply I;refine W.stop ?_;refine V.Zj (U _ _ _).here (sp:=sp) ζ.spec (by rw[b2];exact id) ζ.aT (vs:=[ptr m 1,.bool y,.int .i64 2]) rfl (λbq iM=>by rw[AG iM];exact ζ.still bq iM) ⟨⟨rfl,rfl,by simp[Frame.enter],rfl⟩,ZP,⟨_,rfl⟩,rfl,rfl,rfl⟩ (λgV ς ο h=>by rw[b2];exact h) (λgV ς ο h=>?_);have hv:=ο.view gD k8 pt;refine⟨{ς with cX:=ς.cX-1},.ch k .wk .work,rfl,rfl,⟨rfl,rfl,rfl⟩,by rw[b2];exact .take h,λhK eg=>?_⟩;rw[gT];refine V.bh (U _ _ _) rfl ?_;refine W.bF ?_;cases st with
 | true=>
  first|apply aZ|apply wb|apply a2|apply wd
  refine ν λη I=>?_;(try simp);(repeat (rw[δ];simp));(try simp[]);apply I;refine W.forget [(0,.z (ptr m 0)),(2,.z (.int .i64 τ)),(3,.z (.bool true))] (by simp) (.stop ?_);exact next hK _ true (by omega)
 | false=>
  first|apply aZ|apply wb|apply a2|apply wd
  refine W.cj ?_;refine W.part (A:=[]) Ι [0,1] [2,3,4,5,6,7] rfl λη I=>?_;(try simp);(repeat (rw[δ];simp));apply I;refine W.stop ?_;refine V.nano (U _ _ _) (vs:=[]) ⟨⟨rfl,rfl,by simp[Frame.enter],rfl⟩,Pk,⟨_,rfl⟩,rfl,rfl,rfl⟩ Pq λeI=>?_;refine V.bh (U _ _ _) rfl ?_;refine W.part (A:=[]) Ι [3,4,5,6,7] [] rfl λη I=>?_;(try simp);(repeat (rw[δ];simp));(try simp[]);apply I;refine W.bF ?_;refine W.forget [(0,.z (ptr m 0)),(2,.z (.int .i64 τ)),(3,.z (.bool (decide (1000000<IntKind.i64.wrap (eI-τ)))))] (by simp) (.stop ?_);exact next hK _ _ (by omega)
theorem ZZ (ζ:jd x s m sp) (Κ:s' Q mn x c rest S H s k sp) {φ:Nat} (Δ:AK Q mn x c rest S H s m k sp φ) {gD:Nat} {k8:aN} (ag:gD<φ) {w:Int} {aw st:Bool} {it τ:Int} (aA:¬eS .i32 w 5=0) :
  jN Q mn x c rest S H s m (.ch k .q .work) (some (gD,k8)) 1 (.code mY::.inBlock 1::k7) (cR m w aw st it τ):=by
 letI:bm:=ep;have U:=ζ.seq;have next:∀(τ:Int) (y:Bool),jN Q mn x c rest S H s m (.ch k .q .work) (some (gD,k8)) 1 (.code (dC [1,1,1,0] mY)::.code (dC [1,1,1,1] mY)::.inBlock 1::k7) [(0,.z (ptr m 0)),(2,.z (.int .i64 τ)),(3,.z (.bool st)),(8,.z (.bool y))]:=λτ y=>ZY ζ Κ Δ ag
 refine V.bh (U _ _ _) rfl ?_;unfold mY rH qz mX qy;by_cases h:τ=0
 ·subst h;(repeat (first|apply aZ|apply wb|apply a2|apply wd|refine aj rfl ?_|refine ah rfl ?_|(refine ν λη I=>?_;simp;(repeat (rw[δ];simp[cR,aA]));apply I)));refine W.cj (.stop ?_);refine V.nano (U _ _ _) (vs:=[]) ⟨⟨rfl,rfl,by simp[Frame.enter],rfl⟩,Pk,⟨_,rfl⟩,rfl,rfl,rfl⟩ Pq λeI=>?_;refine V.bh (U _ _ _) rfl ?_;refine W.part (A:=[]) Ι [1] [] rfl λη I=>?_;(try simp);(repeat (rw[δ];simp));(try simp[]);apply I;refine W.bF ?_
  first|apply aZ|apply wb|apply a2|apply wd
  refine W.forget [(0,.z (ptr m 0)),(2,.z (.int .i64 eI)),(3,.z (.bool st)),(8,.z (.bool false))] (by simp) (.stop ?_);exact next eI false
 ·(repeat (first|apply aZ|apply wb|apply a2|apply wd|refine aj rfl ?_|refine ah rfl ?_|(refine ν λη I=>?_;simp;(repeat (rw[δ];simp[cR,aA,h]));apply I)));refine W.forget [(0,.z (ptr m 0)),(2,.z (.int .i64 τ)),(3,.z (.bool st)),(8,.z (.bool true))] (by simp[h]) (.stop ?_);exact next τ true
end
theorem Pu {a b:aN} {t u:Tok} (ξ:s7 a t) (hb:s7 b u) (h:mwd a=mwd b):a.cb=b.cb/\a.wk=b.wk/\a.sv=b.sv/\a.nw=b.nw:=by
 have:=ξ.cb;have:=ξ.wk;have:=ξ.sv;have:=hb.cb;have:=hb.wk;have:=hb.sv;simp only[mwd] at h;omega
section
variable {Q:Value->Prop} {mn:Bool} {x:aV} {c:Frame} {rest:List Frame} {S:aB} {B:aR} {σ:List Row} {H:Α} {s m k:Nat} {sp:Spec} {v:Option (Nat×aN)} {t:Tok}
theorem AL (ζ:jd x s m sp) {ς:aN} (h:ς.toSpec=sp):ς.top<7:=by have:=ζ.top;rw[show ς.top=sp.top by rw[<-h]];exact this
theorem Z0 (ζ:jd x s m sp) (Κ:s' Q mn x c rest S H s k sp) {φ:Nat} {ς:aN} (Δ:AK Q mn x c rest S H s m k sp φ) (Γ:ς.toSpec=sp) {aw st:Bool} {it τ:Int} (χ:s7 ς (.ch k (.act aw) .work)) (cA:st=true->aw=true) (iR:0<=it) (EC:it<=4) :
  jN Q mn x c rest S H s m (.ch k (.act aw) .work) (some (φ,ς)) 1 (.code (dC [0] rH)::.code (dC [1] rH)::.inBlock 1::k7) (cR m (mwd ς) aw st it τ++[(7,.z (.int .i32 (pw ς.cb ς.wk ς.sv ς.nw aw st)))]):=by
 letI:bm:=ep;have U:=ζ.seq;have tI:=Pr χ;have gB:=AL ζ Γ;have ω:=χ.cb;have hw:=χ.wk;have qp:=χ.sv;have Η:=χ.nw;have eZ:=IW ς.cb (by omega) ς.wk (by omega) ς.sv (by omega) ς.nw (by omega);rw[<-pv] at eZ;have fin:∀(w:Option (Nat×aN)) (env:aa),a3 env 0=.z (ptr m 0)->jN Q mn x c rest S H s m (.ch k .own .work) w 1 [.code AJ] env:=λw env h=>Pp ζ Κ h;have tail:∀(gD:Nat) (k8:aN),gD<φ->¬eS .i32 (mwd ς) 5=0->jN Q mn x c rest S H s m (.ch k .q .work) (some (gD,k8)) 1 (.code mY::.inBlock 1::k7) (cR m (mwd ς) aw st it τ):=λgD k8 ag aA=>ZZ ζ Κ Δ ag aA;refine V.bh (U _ _ _) rfl ?_;unfold rH qz mX qy;refine W.cj ?_;refine W.part (A:=[]) Ι [0,1,2,3,4] [5] rfl λη I=>?_;(try simp);(repeat (rw[δ];simp[cR]));(try simp[cR]);apply I;refine W.stop ?_;refine V.Et (U _ _ _).here (Nat.succ_pos _) (sp:=sp) ζ.spec (by rw[b2];exact id) ζ.aT ⟨⟨rfl,rfl,by simp[Frame.enter],rfl⟩,EA,⟨_,rfl⟩,rfl,rfl,rfl⟩ (λgV fN ο hv=>.inl ?_) (λgV fN ο hv=>?_)
 ·
  have p8:=ο.view φ ς pt
  have J:gV<φ:=by
   rcases Nat.lt_or_ge gV φ with h|h
   ·exact h
   ·exact absurd (by rw[p8.2 (by omega)]) hv
  unfold h0;rw[kh];refine V.bh (U _ _ _) rfl ?_;refine W.bF ?_
  repeat (first|apply aZ|apply wb|apply a2|apply wd)
  refine ah rfl ?_;refine W.cj ?_;refine W.part (A:=[]) Ι [0,1,2] [3,4] rfl λη I=>?_;(try simp);(repeat (rw[δ];simp));apply I;refine W.stop ?_;refine V.yd (U _ _ _).here (sp:=sp) ζ.spec (by rw[b2];exact id) ⟨rfl,rfl,by simp[Frame.enter],rfl⟩ rfl rfl rfl ye rfl EB mwd (λς w Γ bB=>bB.dz (by rw[Γ];exact ζ.aT)) (λhK fB dP=>.inl ?_);have nE:=dP.view gV fN pt;have dW:=dP.jc.ng;rw[b2] at dW;unfold h0;rw[kh];refine V.bh (U _ _ _) rfl ?_;refine W.part (A:=[]) Ι [4] [] rfl λη I=>?_;(try simp);(repeat (rw[δ];simp));(try simp[]);apply I;refine W.bF ?_;refine W.inBlock ?_;refine W.forget (cR m (mwd fB) aw st it τ) (by simp[cR]) (.stop ?_);exact Δ hK fB aw st it τ (by omega) dP.spec dW cA iR EC
 ·have p8:=ο.view φ ς pt
  have hB:=ο.jc.ng;rw[b2] at hB;obtain⟨Τ,af,aX,cr⟩:=Pu hB χ hv;by_cases AM:ς.cb=0/\ς.sv=0
  ·refine⟨{fN with cb:=1,wk:=if aw then 0 else fN.wk},.ch k .own .work,?_,rfl,⟨rfl,rfl,rfl⟩,by rw[b2];exact .acq (by omega) (by omega),λhK eg=>?_⟩
   ·simp[pw,pv,af,aX,cr,AM.1,AM.2]
   ·rw[gT];rw[AM.1,AM.2] at eZ;refine V.bh (U _ _ _) rfl ?_;refine W.bF ?_
    repeat (first|apply aZ|apply wb|apply a2|apply wd)
    refine aj rfl ?_;(repeat (first|apply aZ|apply wb|apply a2|apply wd|refine aj rfl ?_|refine ah rfl ?_|(refine ν λη I=>?_;simp;(repeat (rw[δ];simp[eZ]));apply I)));refine W.exit rfl (.stop ?_);exact fin _ _ rfl
  ·have Ρ:ς.cb=1\/ς.sv=1:=by omega
   refine⟨{fN with nw:=fN.nw+1,wk:=if aw then 0 else fN.wk,sv:=if(st&&decide (ς.cb=1)) then 1 else fN.sv},.ch k .q .work,?_,rfl,⟨rfl,rfl,rfl⟩,by rw[b2];exact .queue (st&&decide (ς.cb=1)) (by omega) (λh=>by simp at h;exact⟨cA h.1,by omega⟩),λhK eg=>?_⟩
   ·simp only[pw,if_neg AM,pv,Τ,af,aX,cr];simp
   ·rw[gT];refine V.bh (U _ _ _) rfl ?_;refine W.bF ?_
    repeat (first|apply aZ|apply wb|apply a2|apply wd)
    refine aj rfl ?_;refine W.forget (cR m (mwd ς) aw st it τ) (by simp[cR]) (.stop ?_);exact tail hK _ (by omega) (by omega)
theorem Z1 (ζ:jd x s m sp) {φ:Nat} {aw st:Bool} {it τ:Int} {gD:Nat} {k8:aN} (iR:0<=it) (EC:it<4)
  (Δ:∀(cl:Nat) (hL:aN),cl<=gD->hL.toSpec=sp->s7 hL (.ch k (.act aw) .work)->jN Q mn x c rest S H s m (.ch k (.act aw) .work) (some (cl,hL)) 1 k7 (cR m (mwd hL) aw st (it+1) τ)) :
  jN Q mn x c rest S H s m (.ch k (.act aw) .work) (some (gD,k8)) 1 (.code (dC [0,0,1,0,1,0] mX)::.code (dC [0,0,1,0,1,1] mX)::.code qz::.inBlock 1::k7) [(0,.z (ptr m 0)),(2,.z (.int .i64 τ)),(3,.z (.bool st)),(4,.z (.bool aw)),(5,.z (.int .i64 it))]:=by
 letI:bm:=ep;have U:=ζ.seq;have hw:IntKind.i64.wrap (it+1)=it+1:=by simp only[IntKind.wrap_i64];omega
 refine V.bh (U _ _ _) rfl ?_;unfold mX qy
 repeat first|apply aZ|apply wb|apply a2|apply wd
 refine W.cj (.stop ?_);refine V.Ew (U _ _ _) (vs:=[]) ⟨⟨rfl,rfl,by simp[Frame.enter],rfl⟩,ZO,⟨_,rfl⟩,rfl,rfl,rfl⟩ ?_;refine V.bh (U _ _ _) rfl ?_;refine W.bF ?_
 repeat (first|apply aZ|apply wb|apply a2|apply wd)
 refine ν λη I=>?_;(try simp);(repeat (rw[δ];simp[hw]));(try simp[hw]);apply I
 repeat (first|apply aZ|apply wb|apply a2|apply wd)
 refine W.cj ?_;refine W.part (A:=[]) Ι [0,1,2] [3,4] rfl λη I=>?_;(try simp);(repeat (rw[δ];simp));apply I;refine W.stop ?_;refine V.yd (U _ _ _).here (sp:=sp) ζ.spec (by rw[b2];exact id) ⟨rfl,rfl,by simp[Frame.enter],rfl⟩ rfl rfl rfl ye rfl EB mwd (λς w Γ bB=>bB.dz (by rw[Γ];exact ζ.aT)) (λhK fB dP=>.inl ?_);have nE:=dP.view gD k8 pt;have dW:=dP.jc.ng;rw[b2] at dW;unfold h0;rw[kh];refine V.bh (U _ _ _) rfl ?_;refine W.part (A:=[]) Ι [4] [] rfl λη I=>?_;(try simp);(repeat (rw[δ];simp));(try simp[]);apply I;refine W.bF ?_;refine W.exit rfl ?_;refine W.forget (cR m (mwd fB) aw st (it+1) τ) (by simp[cR]) (.stop ?_);exact Δ hK fB (by omega) dP.spec dW
theorem Z2 (ζ:jd x s m sp) (Κ:s' Q mn x c rest S H s k sp):∀(N φ:Nat) (ς:aN) (aw st:Bool) (it τ:Int),φ*8+(4-it).toNat<N->ς.toSpec=sp->s7 ς (.ch k (.act aw) .work)->(st=true->aw=true)->0<=it->it<=4->
  jN Q mn x c rest S H s m (.ch k (.act aw) .work) (some (φ,ς)) 1 (.code mX::k7) (cR m (mwd ς) aw st it τ):=by
 letI:bm:=ep;have U:=ζ.seq;intro N
 induction N with
 | zero=>intro φ ς aw st it τ h;omega
 | succ N AN=>
  intro φ ς aw st it τ b8 Γ χ cA iR EC;have tI:=Pr χ;have gB:=AL ζ Γ;have ω:=χ.cb;have hw:=χ.wk;have qp:=χ.sv;have Η:=χ.nw;have eZ:=IW ς.cb (by omega) ς.wk (by omega) ς.sv (by omega) ς.nw (by omega);have Ε:=Ey ς.cb (by omega) ς.wk (by omega) ς.sv (by omega) ς.nw (by omega);have hN:=ZG ς.cb (by omega) ς.wk (by omega) ς.sv (by omega) ς.nw (by omega);have lZ:=IZ ς.cb (by omega) ς.wk (by omega) ς.sv (by omega) ς.nw (by omega);rw[<-pv] at eZ Ε lZ hN;have back:∀(cl:Nat) (hL:aN) (nJ yg:Bool) (uJ eI:Int),cl*8+(4-uJ).toNat<N->hL.toSpec=sp->s7 hL (.ch k (.act nJ) .work)->(yg=true->nJ=true)->0<=uJ->uJ<=4->
    jN Q mn x c rest S H s m (.ch k (.act nJ) .work) (some (cl,hL)) 1 k7 (cR m (mwd hL) nJ yg uJ eI):=λcl hL nJ yg uJ eI J γ π Μ aA bc=>by
   have:=AN cl hL nJ yg uJ eI J γ π Μ aA bc;refine V.bh (U _ _ _) rfl ?_;exact W.inLoop (.stop this)
  have eC:AK Q mn x c rest S H s m k sp φ:=λcl hL nJ yg uJ eI J γ π Μ aA bc=>back cl hL nJ yg uJ eI (by omega) γ π Μ aA bc
  have new:jN Q mn x c rest S H s m (.ch k (.act aw) .work) (some (φ,ς)) 1 (.code qz::.inBlock 1::k7) (cR m (mwd ς) aw st it τ):=by
   rw[pv];exact ZV ζ (by omega) (by omega) (by omega) (by omega) tI cA (by rw[<-pv];exact Z0 ζ Κ eC Γ χ cA iR EC)
  have AO:∀(gD:Nat) (k8:aN) (nJ:Bool),it<4->(gD<=φ)->(st=true->nJ=true)->jN Q mn x c rest S H s m (.ch k (.act nJ) .work) (some (gD,k8)) 1 (.code (dC [0,0,1,0,1,0] mX)::.code (dC [0,0,1,0,1,1] mX)::.code qz::.inBlock 1::k7) [(0,.z (ptr m 0)),(2,.z (.int .i64 τ)),(3,.z (.bool st)),(4,.z (.bool nJ)),(5,.z (.int .i64 it))]:=λgD k8 nJ J γ π=>
   Z1 ζ (φ:=φ) iR J λcl hL Τ af aX=>back cl hL nJ st (it+1) τ (by omega) af aX π (by omega) (by omega)
  refine V.bh (U _ _ _) rfl ?_;unfold mX qy
  repeat first|apply aZ|apply wb|apply a2|apply wd
  by_cases bU:ς.cb=1/\ς.sv=0
  ·rw[bU.1,bU.2] at eZ;refine W.cj ?_;refine W.part (A:=[]) Ι [0,1,2,3,4] [5,6] rfl λη I=>?_;(try simp);(repeat (rw[δ];simp[cR,eZ]));(try simp[cR,eZ]);apply I;refine W.stop ?_;refine V.canSpin (U _ _ _) ⟨⟨rfl,rfl,by simp[Frame.enter],rfl⟩,ZN,⟨_,rfl⟩,rfl,rfl,rfl⟩ λy Ξ=>?_;refine V.bh (U _ _ _) rfl ?_;refine W.part (A:=[]) Ι [6] [] rfl λη I=>?_;(try simp);(repeat (rw[δ];simp[cR]));(try simp[cR]);apply I;refine W.bF ?_;cases y with
   | false=>
    refine ah rfl ?_
    first|apply aZ|apply wb|apply a2|apply wd
    refine W.forget (cR m (mwd ς) aw st it τ) (by simp[cR]) (.stop ?_);exact new
   | true=>
    have Μ:=Ξ rfl;refine aj rfl ?_
    repeat first|apply aZ|apply wb|apply a2|apply wd
    cases aw with
    | true=>
     (repeat (first|apply aZ|apply wb|apply a2|apply wd|refine aj rfl ?_|refine ah rfl ?_|(refine ν λη I=>?_;simp;(repeat (rw[δ];simp[cR]));apply I)));refine W.forget [(0,.z (ptr m 0)),(2,.z (.int .i64 τ)),(3,.z (.bool st)),(4,.z (.bool true)),(5,.z (.int .i64 it))] (by simp) (.stop ?_);exact AO φ ς true Μ (Nat.le_refl _) (λ_=>rfl)
    | false=>
     by_cases ED:ς.wk=0
     ·by_cases q9:ς.nw=0
      ·rw[ED] at Ε;rw[q9] at lZ;(repeat (first|apply aZ|apply wb|apply a2|apply wd|refine aj rfl ?_|refine ah rfl ?_|(refine ν λη I=>?_;simp;(repeat (rw[δ];simp[cR,Ε,lZ]));apply I)));refine W.forget [(0,.z (ptr m 0)),(2,.z (.int .i64 τ)),(3,.z (.bool st)),(4,.z (.bool false)),(5,.z (.int .i64 it))] (by simp) (.stop ?_);exact AO φ ς false Μ (Nat.le_refl _) cA
      ·rw[ED] at Ε;have Pv:((ς.nw:Int) != 0)=true:=by simp;omega
       refine W.cj ?_;refine W.part (A:=[]) Ι [0,1,2,3,4,5,6,7,8,9,10,11,12,13,14,15,16,17,18] [19,20] rfl λη I=>?_;(try simp);(repeat (rw[δ];simp[cR,Ε,lZ,hN,q9,Pv]));(try simp[cR,Ε,lZ,hN,q9,Pv]);apply I;refine W.stop ?_;refine V.Et (U _ _ _).here (Nat.succ_pos _) (sp:=sp) ζ.spec (by rw[b2];exact id) ζ.aT ⟨⟨rfl,rfl,by simp[Frame.enter],rfl⟩,EA,⟨_,rfl⟩,rfl,rfl,rfl⟩ (λgV fN ο hv=>.inl ?_) (λgV fN ο hv=>?_)
       ·have p8:=ο.view φ ς pt;unfold h0;rw[kh];refine V.bh (U _ _ _) rfl ?_;refine W.part (A:=[]) Ι [20] [] rfl λη I=>?_;(try simp);(repeat (rw[δ];simp[cR]));(try simp[cR]);apply I;refine W.bF ?_;refine ah rfl ?_
        repeat (first|apply aZ|apply wb|apply a2|apply wd)
        refine W.forget [(0,.z (ptr m 0)),(2,.z (.int .i64 τ)),(3,.z (.bool st)),(4,.z (.bool false)),(5,.z (.int .i64 it))] (by simp[cR]) (.stop ?_);exact AO gV fN false Μ (by omega) cA
       ·have p8:=ο.view φ ς pt
        have hB:=ο.jc.ng;rw[b2] at hB;obtain⟨Τ,af,aX,cr⟩:=Pu hB χ hv;refine⟨{fN with wk:=1},.ch k (.act true) .work,?_,rfl,⟨rfl,rfl,rfl⟩,by rw[b2];exact .Tc (by omega) (by omega) (by omega) (by omega),λhK eg=>?_⟩
        ·simp[pv,Τ,aX,cr]
        ·rw[gT];refine V.bh (U _ _ _) rfl ?_;refine W.part (A:=[]) Ι [20] [] rfl λη I=>?_;(try simp);(repeat (rw[δ];simp[cR]));(try simp[cR]);apply I;refine W.bF ?_;refine aj rfl ?_;refine ν λη I=>?_;(try simp);(repeat (rw[δ];simp[cR]));(try simp[cR]);apply I
         repeat (first|apply aZ|apply wb|apply a2|apply wd)
         refine W.forget [(0,.z (ptr m 0)),(2,.z (.int .i64 τ)),(3,.z (.bool st)),(4,.z (.bool true)),(5,.z (.int .i64 it))] (by simp[cR]) (.stop ?_);exact AO hK _ true Μ (by omega) (λ_=>rfl)
     ·have iq:ς.wk=1:=by omega
      rw[iq] at Ε;(repeat (first|apply aZ|apply wb|apply a2|apply wd|refine aj rfl ?_|refine ah rfl ?_|(refine ν λη I=>?_;simp;(repeat (rw[δ];simp[cR,Ε]));apply I)));refine W.forget [(0,.z (ptr m 0)),(2,.z (.int .i64 τ)),(3,.z (.bool st)),(4,.z (.bool false)),(5,.z (.int .i64 it))] (by simp) (.stop ?_);exact AO φ ς false Μ (Nat.le_refl _) cA
  ·have aA:¬eS .i32 (mwd ς) 5=1:=by rw[eZ];omega
   refine ν λη I=>?_;(try simp);(repeat (rw[δ];simp[cR,aA]));(try simp[cR,aA]);apply I;refine ah rfl ?_
   first|apply aZ|apply wb|apply a2|apply wd
   refine W.forget (cR m (mwd ς) aw st it τ) (by simp[cR]) (.stop ?_);exact new
theorem Z3 (ζ:jd x s m sp):Po Q mn x s m k sp:=by
 intro c rest S B σ H v Β Κ;letI:bm:=ep;have U:=ζ.seq;have head:=λφ ς aw st it τ γ π Μ aA bc=>Z2 ζ Κ (φ*8+(4-it).toNat+1) φ ς aw st it τ (Nat.lt_succ_self _) γ π Μ aA bc;refine V.qt (z:=one _) (vs:=[ptr m 0]) Tryz.func213 rfl Β (by simp[Tryz.ntmps213]) ?_ _ rfl;refine V.bh (U _ _ _) rfl ?_;(repeat (first|apply aZ|apply wb|apply a2|apply wd|refine aj rfl ?_|refine ah rfl ?_|(refine ν λη I=>?_;simp;(repeat (rw[δ];simp));apply I)));refine W.cj ?_;refine W.part (A:=[]) Ι [0,1,2] [3,4] rfl λη I=>?_;(try simp);(repeat (rw[δ];simp));apply I;refine W.stop ?_;refine V.yd (U _ _ _).here (sp:=sp) ζ.spec (by rw[b2];exact id) ⟨rfl,rfl,by simp[Frame.enter],rfl⟩ rfl rfl rfl ye rfl EB mwd (λς w Γ bB=>bB.dz (by rw[Γ];exact ζ.aT)) (λhK fB dP=>.inl ?_);have dW:=dP.jc.ng;rw[b2] at dW;unfold h0;rw[kh];refine V.bh (U _ _ _) rfl ?_;refine W.part (A:=[]) Ι [4] [] rfl λη I=>?_;(try simp);(repeat (rw[δ];simp));(try simp[]);apply I;refine W.bF ?_
 repeat (first|apply aZ|apply wb|apply a2|apply wd)
 refine W.loop ?_;refine W.forget (cR m (mwd fB) false false 0 0) (by simp[cR]) (.stop ?_);exact head hK fB false false 0 0 dP.spec dW (λh=>by cases h) (by omega) (by omega)
theorem Z4 (ζ:jd x s m sp) (Β:Holds S B σ H) (Κ:s' Q mn x c rest S H s k sp):cn Tryz.prog Q mn (bw x s (.ch k .idle .work) v 0) (Frame.enter Tryz.prog 144 #[ptr m 0] .normal) (c::rest) H:=by
 letI:bm:=ep;have U:=ζ.seq;refine V.qt (z:=one _) (vs:=[ptr m 0]) Tryz.func144 rfl Β (by simp[Tryz.ntmps144]) ?_ _ rfl;refine V.bh (U _ _ _) rfl ?_
 repeat first|apply aZ|apply wb|apply a2|apply wd
 refine W.cj ?_;refine W.part (A:=[]) Ι [0,1,2] [3] rfl λη I=>?_;(try simp);(repeat (rw[δ];simp));apply I;refine W.stop ?_;refine V.call (U _ _ _) ⟨rfl,rfl,by simp[Frame.enter],rfl⟩ rfl rfl rfl ⟨_,Tryz.func175,rfl,rfl⟩ λbJ bO H1 t1 pf ξ ψ hv=>?_;obtain rfl:=mV (l:=[ptr m 0]) hv;obtain rfl:bO=[]:=dp.1 ψ.holds.len;rintro y rfl;refine ZT ζ ψ.holds (Z3 ζ) λcT bN L E k6 iU dg iy wC=>?_;rw[h' rfl];refine cn.leave0 (U _ _ _) rfl rfl rfl rfl Tryz.func144 rfl ?_;exact Κ cT bN L E (ξ.ext.trans k6) iU dg iy wC
end
noncomputable def Pw:Code:=Tryz.f215.body.getD .skip
noncomputable def I4:Code:=dC [1,1,0,1,0,0] Pw
noncomputable def Px:List Item:=[.inLoop I4,.inBlock 0]
theorem Z5:∀n<8,0<n->q5 .i32 (IntKind.i32.wrap (gU 0 0 0 n-8)) 2=gU 0 1 0 (n-1):=by decide +kernel
theorem Z6:∀b<2,∀c<2,∀n<8,eS .i32 (IntKind.i32.wrap (gU 0 b c n+1)) 1=1:=by decide +kernel
abbrev e6:aB:=λ_ _=>none
theorem AP {S ax:aB} {B B':aR} {σ σ':List Row} {env:aa} {t:Array Value} (he:∀p∈env,∃v,p.2=θ.z v) (h:de S B σ env t):de ax B' σ' env t:=by
 intro i;have key:∀(env:aa),(∀p∈env,∃v,p.2=θ.z v)->(∃v,a3 env i=.z v)\/a3 env i=.cg:=by
  intro env
  induction env with
  | nil=>exact λ_=>.inr rfl
  | cons p l Δ=>
   intro h;obtain⟨j,a⟩:=p;simp only[a3];split
   ·exact .inl (h (j,a) (by simp))
   ·exact Δ λq Ρ=>h q (by simp[Ρ])
 have hi:=h i;rcases key env he with⟨v,e⟩|e
 ·rw[e] at hi ⊢;generalize t.getD i undef=u at hi;cases hi;exact .z _
 ·rw[e];exact .cg _
theorem yh (H:Α):Holds e6 [] [] H:=⟨λb o v h=>(by cases h),rfl,λid r bo h=>(by simp at h),λi j ec b' b gF gG _ h=>(by simp at h),λid r b N h=>(by simp at h)⟩
theorem fx.none {m nt:Nat} {S:aB} {B:aR} {H H':Α} {env:aa} {t:Array Value} (h:fx m nt S B H [] env t) (he:∀p∈env,∃v,p.2=θ.z v):fx 0 nt e6 [] H' [] env t:=⟨yh H',AP he h.cp,h.size,Nat.le_refl _⟩
section
variable {Q:Value->Prop} {mn:Bool} {x:aV} {c:Frame} {rest:List Frame} {S:aB} {B:aR} {σ:List Row} {H:Α} {s m k:Nat} {sp:Spec} {v:Option (Nat×aN)} {t:Tok}
abbrev I5 (Q:Value->Prop) (mn:Bool) (x:aV) (c:Frame) (rest:List Frame) (H:Α) (s m:Nat) (w:Int) (t:Tok) (v:Option (Nat×aN)) (K:List Item) (env:aa):Prop:=
 V Tryz.prog Q mn (one (bw x s t v 1)) (Frame.enter Tryz.prog 215 #[ptr m 0,.int .i32 w] .normal) (c::rest) 43 ⟨e6,[],H,[],0⟩ K env []
def AQ (Q:Value->Prop) (mn:Bool) (x:aV) (c:Frame) (rest:List Frame) (H:Α) (s k d:Nat):Prop:=
 ∀(v:Option (Nat×aN)) (cT:aB) (bN:Α),Ext e6 [] H cT [] bN->cn Tryz.prog Q mn (bw x s (.ch k .done .work) v d) (c.finish (.tuple #[])) rest bN
theorem I6 (ζ:jd x s m sp) (Κ:AQ Q mn x c rest H s k 1) {w:Int} {K:List Item} {env:aa} (e:t=.ch k .done .work):I5 Q mn x c rest H s m w t v (.code .ret::K) env:=by
 letI:bm:=ep;have U:=ζ.seq;subst e;refine V.IS (U _ _ _) rfl rfl rfl rfl Tryz.func215 rfl λbJ bO H1 ξ Β=>?_;obtain rfl:bO=[]:=dp.1 Β.len;rintro y rfl;exact Κ v bJ H1 ξ.ext
def Py (k:Nat) (ς:aN) (t:Tok):Prop:=((ς.nw=0\/ς.cb=1\/ς.wk=1\/ς.sv=1)/\t=.ch k .done .work)\/(0<ς.nw/\ς.cb=0/\ς.wk=0/\ς.sv=0/\t=.ch k .uc .work)
theorem Pz (ζ:jd x s m sp) (Κ:AQ Q mn x c rest H s k 1) {w:Int}:∀(N φ:Nat) (ς:aN) (t:Tok),φ<N->ς.cb<=1->ς.wk<=1->ς.sv<=1->ς.nw<7->Py k ς t->
  I5 Q mn x c rest H s m w t (some (φ,ς)) (.code I4::Px) [(0,.z (ptr m 0)),(4,.z (.int .i32 (mwd ς)))]:=by
 letI:bm:=ep;have U:=ζ.seq;intro N
 induction N with
 | zero=>intro φ ς t h;omega
 | succ N AN=>
  intro φ ς t b8 ω hw qp Η Ο;have qO:=ZD ς.cb (by omega) ς.wk (by omega) ς.sv (by omega) ς.nw (by omega);have lZ:=IZ ς.cb (by omega) ς.wk (by omega) ς.sv (by omega) ς.nw (by omega);rw[<-pv] at qO lZ;have back:∀(cl:Nat) (hL:aN) (t':Tok),cl<N->hL.cb<=1->hL.wk<=1->hL.sv<=1->hL.nw<7->Py k hL t'->I5 Q mn x c rest H s m w t' (some (cl,hL)) Px [(0,.z (ptr m 0)),(4,.z (.int .i32 (mwd hL)))]:=λcl hL t' J γ π Μ aA bc=>by
   have:=AN cl hL t' J γ π Μ aA bc;refine V.bh (U _ _ _) rfl ?_;exact W.inLoop (.stop this)
  refine V.bh (U _ _ _) rfl ?_;unfold I4 Pw
  repeat first|apply aZ|apply wb|apply a2|apply wd
  rcases Ο with⟨Ο,rfl⟩|⟨J,γ,π,Μ,rfl⟩
  ·by_cases Θ:ς.nw=0
   ·rw[Θ] at lZ;(repeat (first|apply aZ|apply wb|apply a2|apply wd|refine aj rfl ?_|refine ah rfl ?_|(refine ν λη I=>?_;simp;(repeat (rw[δ];simp[lZ]));apply I)));exact .stop (I6 ζ Κ rfl)
   ·have gK:¬eS .i32 (mwd ς) 7=0:=by rw[qO];omega
    have Gk:(eS .i32 (mwd ς) 7 != 0)=true:=by simpa using gK
    (repeat (first|apply aZ|apply wb|apply a2|apply wd|refine aj rfl ?_|refine ah rfl ?_|(refine ν λη I=>?_;simp;(repeat (rw[δ];simp[lZ,Θ,gK,Gk]));apply I)));exact .stop (I6 ζ Κ rfl)
  ·have Θ:¬ς.nw=0:=by omega
   have jY:¬(ς.nw:Int)=0:=by omega
   have EE:mwd ς=gU 0 0 0 ς.nw:=by rw[pv,γ,π,Μ]
   have y3:=Z5 ς.nw (by omega) J;rw[<-EE] at y3;rw[γ,π,Μ] at qO;(repeat (first|apply aZ|apply wb|apply a2|apply wd|refine aj rfl ?_|refine ah rfl ?_|(refine ν λη I=>?_;simp;(repeat (rw[δ];simp[lZ,Θ,jY,qO]));apply I)));refine W.cj ?_;refine W.part (A:=[]) Ι [0,1,2,3,4] [5] rfl λη I=>?_;(try simp);(repeat (rw[δ];simp[y3]));(try simp[y3]);apply I;refine W.stop ?_;refine V.Et (U _ _ _).here (Nat.succ_pos _) (sp:=sp) ζ.spec (by rw[b2];exact id) ζ.aT ⟨⟨rfl,rfl,by simp[Frame.enter],rfl⟩,EA,⟨_,rfl⟩,rfl,rfl,rfl⟩ (λgV fN ο hv=>.inl ?_) (λgV fN ο hv=>?_)
   ·have p8:=ο.view φ ς pt
    have aA:gV<φ:=by
     rcases Nat.lt_or_ge gV φ with h|h
     ·exact h
     ·exact absurd (by rw[p8.2 (by omega)]) hv
    unfold h0;rw[kh];refine V.bh (U _ _ _) rfl ?_;refine W.bF ?_;refine ah rfl ?_
    repeat first|apply aZ|apply wb|apply a2|apply wd
    refine W.cj ?_;refine W.part (A:=[]) Ι [0,1,2] [3,4] rfl λη I=>?_;(try simp);(repeat (rw[δ];simp));apply I;refine W.stop ?_;refine V.yd (U _ _ _).here (sp:=sp) ζ.spec (by rw[b2];exact id) ⟨rfl,rfl,by simp[Frame.enter],rfl⟩ rfl rfl rfl ye rfl (by kernel_rfl) mwd (λς w Γ bB=>bB.dz (by rw[Γ];exact ζ.aT)) (λhK fB dP=>?_);have nE:=dP.view gV fN pt;have dW:=dP.jc.ng;have gB:=AL ζ dP.spec;have Τ:=dW.cb;have af:=dW.wk;have aX:=dW.sv;have cr:=dW.nw;by_cases tF:fB.nw=0\/fB.cb=1\/fB.wk=1\/fB.sv=1
    ·refine .inr ⟨.ch k .done .work,by rw[b2];exact .Ti tF,λyf eg=>?_⟩;rw[gT];refine V.bh (U _ _ _) rfl ?_;refine W.part (A:=[]) Ι [4] [] rfl λη I=>?_;(try simp);(repeat (rw[δ];simp));(try simp[]);apply I;refine W.bF ?_
     repeat (first|apply aZ|apply wb|apply a2|apply wd)
     refine W.forget [(0,.z (ptr m 0)),(4,.z (.int .i32 (mwd fB)))] (by simp) (.stop ?_);exact back yf fB _ (by omega) Τ af aX (by omega) (.inl ⟨tF,rfl⟩)
    ·refine .inl ?_;unfold h0;rw[kh];refine V.bh (U _ _ _) rfl ?_;refine W.part (A:=[]) Ι [4] [] rfl λη I=>?_;(try simp);(repeat (rw[δ];simp));(try simp[]);apply I;refine W.bF ?_
     repeat (first|apply aZ|apply wb|apply a2|apply wd)
     refine W.forget [(0,.z (ptr m 0)),(4,.z (.int .i32 (mwd fB)))] (by simp) (.stop ?_);exact back hK fB _ (by omega) Τ af aX (by omega) (.inr ⟨by omega,by omega,by omega,by omega,rfl⟩)
   ·have hB:=ο.jc.ng
    have gB:=AL ζ ο.spec
    have f1:=hB.cb;have f2:=hB.wk;have f3:=hB.sv;have f4:=hB.nw
    have f5:fN.cb=0/\fN.wk=0/\fN.sv=0/\fN.nw=ς.nw:=by
     rw[EE] at hv;simp only[mwd,gU] at hv;omega
    refine⟨{fN with nw:=fN.nw-1,wk:=1},.ch k .us .work,?_,rfl,⟨rfl,rfl,rfl⟩,by rw[b2];exact .Tg (by omega) (by omega) (by omega) (by omega),λhK eg=>?_⟩
    ·simp[pv,f5]
    ·rw[gT];refine V.bh (U _ _ _) rfl ?_;refine W.bF ?_;refine aj rfl ?_
     repeat first|apply aZ|apply wb|apply a2|apply wd
     refine W.cj ?_;refine W.part (A:=[]) Ι [0,1,2] [3] rfl λη I=>?_;(try simp);(repeat (rw[δ];simp));apply I;refine W.stop ?_;refine V.O8 (U _ _ _).here (sp:=sp) ζ.spec (by rw[b2];exact id) ζ.aT (vs:=[ptr m 1,.bool false,.int .i64 2]) rfl ⟨⟨rfl,rfl,by simp[Frame.enter],rfl⟩,Pl,⟨_,rfl⟩,rfl,rfl,rfl⟩ (λyf dm rI=>?_);have jv:=rI.jc.ng;refine⟨by have:=jv.cX;omega,{dm with cX:=dm.cX+1},.ch k .done .work,rfl,rfl,⟨rfl,rfl,rfl⟩,by rw[b2];exact .post,λAR lΒ=>?_⟩;rw[gT];refine V.bh (U _ _ _) rfl ?_;refine W.bF (.stop ?_);exact I6 ζ Κ rfl
theorem Z7 (ζ:jd x s m sp) (Κ:AQ Q mn x c rest H s k 1) {ς:aN} {φ:Nat} (Γ:ς.toSpec=sp) (EF:ς.cb=0) (wB:ς.wk<=1) (nI:ς.sv<=1) (PA:ς.nw<7)
  (Ο:(ς.sv=0/\(ς.nw=0\/ς.wk=1)/\t=.ch k .done .work)\/(ς.sv=0/\0<ς.nw/\ς.wk=0/\t=.ch k .uc .work)\/(ς.sv=1/\t=.ch k .us .work)) :
  cn Tryz.prog Q mn (bw x s t (some (φ,ς)) 1) (Frame.enter Tryz.prog 215 #[ptr m 0,.int .i32 (mwd ς)] .normal) (c::rest) H:=by
 letI:bm:=ep;have U:=ζ.seq;have dH:=Z6 ς.wk (by omega) ς.sv (by omega) ς.nw (by omega);have cy:=IX 0 (by omega) ς.wk (by omega) ς.sv (by omega) ς.nw (by omega);have EE:mwd ς=gU 0 ς.wk ς.sv ς.nw:=by rw[pv,EF]
 rw[<-EE] at dH cy;refine V.qt (z:=one _) (vs:=[ptr m 0,.int .i32 (mwd ς)]) (S:=e6) Tryz.func215 rfl (yh H) (by simp[Tryz.ntmps215]) ?_ _ rfl;refine V.bh (U _ _ _) rfl ?_;rcases Ο with⟨J,γ,rfl⟩|⟨J,γ,π,rfl⟩|⟨J,rfl⟩
 ·rw[J] at cy;(repeat (first|apply aZ|apply wb|apply a2|apply wd|refine aj rfl ?_|refine ah rfl ?_|(refine ν λη I=>?_;simp;(repeat (rw[δ];simp[dH,cy]));apply I)));refine W.loop ?_;refine W.forget [(0,.z (ptr m 0)),(4,.z (.int .i32 (mwd ς)))] (by simp) (.stop ?_);exact Pz ζ Κ (φ+1) φ ς _ (Nat.lt_succ_self _) (by omega) wB nI PA (.inl ⟨γ.imp id λh=>.inr (.inl h),rfl⟩)
 ·rw[J] at cy;(repeat (first|apply aZ|apply wb|apply a2|apply wd|refine aj rfl ?_|refine ah rfl ?_|(refine ν λη I=>?_;simp;(repeat (rw[δ];simp[dH,cy]));apply I)));refine W.loop ?_;refine W.forget [(0,.z (ptr m 0)),(4,.z (.int .i32 (mwd ς)))] (by simp) (.stop ?_);exact Pz ζ Κ (φ+1) φ ς _ (Nat.lt_succ_self _) (by omega) wB nI PA (.inr ⟨γ,EF,π,J,rfl⟩)
 ·rw[J] at cy;(repeat (first|apply aZ|apply wb|apply a2|apply wd|refine aj rfl ?_|refine ah rfl ?_|(refine ν λη I=>?_;simp;(repeat (rw[δ];simp[dH,cy]));apply I)));refine W.cj ?_;refine W.part (A:=[]) Ι [0,1,2] [3] rfl λη I=>?_;(try simp);(repeat (rw[δ];simp));apply I;refine W.stop ?_;refine V.O8 (U _ _ _).here (sp:=sp) ζ.spec (by rw[b2];exact id) ζ.aT (vs:=[ptr m 1,.bool true,.int .i64 2]) rfl ⟨⟨rfl,rfl,by simp[Frame.enter],rfl⟩,Pl,⟨_,rfl⟩,rfl,rfl,rfl⟩ (λgV fN ο=>?_);have hB:=ο.jc.ng;refine⟨by have:=hB.cX;omega,{fN with cX:=fN.cX+1},.ch k .done .work,rfl,rfl,⟨rfl,rfl,rfl⟩,by rw[b2];exact .post,λhK eg=>?_⟩;rw[gT];refine V.bh (U _ _ _) rfl ?_;refine W.bF (.stop ?_);refine V.Ev (U _ _ _) rfl rfl rfl rfl Tryz.func215 rfl λbJ bO H1 ξ Β=>?_;obtain rfl:bO=[]:=dp.1 Β.len;rintro y rfl;exact Κ _ bJ H1 ξ.ext
end
noncomputable def AS:Code:=Tryz.f176.body.getD .skip
theorem Z8:(Tryz.prog.funcs[176]?).any (·.norace)=true:=by kernel_rfl
section
variable {Q:Value->Prop} {mn:Bool} {x:aV} {c:Frame} {rest:List Frame} {S:aB} {B:aR} {σ:List Row} {H:Α} {s m k:Nat} {sp:Spec} {v:Option (Nat×aN)} {t:Tok}
abbrev PB (Q:Value->Prop) (mn:Bool) (x:aV) (c:Frame) (rest:List Frame) (H:Α) (s m:Nat) (t:Tok) (v:Option (Nat×aN)) (d:Nat) (K:List Item) (env:aa):Prop:=
 V Tryz.prog Q mn (one (bw x s t v d)) (Frame.enter Tryz.prog 176 #[ptr m 0] .normal) (c::rest) 21 ⟨e6,[],H,[],0⟩ K env []
theorem PC {ax:aB} {H H':Α} (h:Ext e6 [] H ax [] H'):Ext e6 [] H e6 [] H':=
 ⟨λb o v h=>(by cases h),λb hb Φ=>h.fD b hb Φ,λb hb=>h.blocks b hb,λb o v h=>(by cases h),h.grow⟩
theorem PD (ζ:jd x s m sp) (Κ:AQ Q mn x c rest H s k 0) {env:aa}:PB Q mn x c rest H s m (.ch k .done .work) v 1 [.code (dC [1,1,1] AS)] env:=by
 letI:bm:=ep;have U:=ζ.seq;refine V.bh (U _ _ _) rfl ?_;unfold AS;refine W.cj (.stop ?_);refine V.enable (U _ _ _).here (Nat.succ_pos _) ⟨⟨rfl,rfl,by simp[Frame.enter],rfl⟩,uG,⟨_,rfl⟩,rfl,rfl,rfl⟩ ?_;rw[AF];refine V.bh (U _ _ _) rfl ?_;refine W.bF (.stop ?_);refine V.Ev (U _ _ _) rfl rfl rfl rfl Tryz.func176 rfl λbJ bO H1 ξ Β=>?_;obtain rfl:bO=[]:=dp.1 Β.len;rintro y rfl;exact Κ _ bJ H1 ξ.ext
theorem Z9 (ζ:jd x s m sp) (Β:Holds S B σ H) {L:List Nat}
  (cU:∀(ax:aB) (H':Α),Ext S [] H ax [] H'->Holds ax [] [] H'->∃H1 E,Split H' H1 E/\sp.aH (L++[k]) E/\AQ Q mn x c rest H1 s k 0) :
  cn Tryz.prog Q mn (bw x s (.ch k (.dc L) .work) v 0) (Frame.enter Tryz.prog 176 #[ptr m 0] .normal) (c::rest) H:=by
 letI:bm:=ep;have U:=ζ.seq;refine V.qt (z:=one _) (vs:=[ptr m 0]) Tryz.func176 rfl Β (by simp[Tryz.ntmps176]) ?_ _ rfl;refine V.bh (U _ _ _) rfl ?_
 repeat first|apply aZ|apply wb|apply a2|apply wd
 refine aj rfl ?_
 repeat first|apply aZ|apply wb|apply a2|apply wd
 refine W.cj ?_;refine W.part (A:=[]) Ι [0,1,2] [3] rfl λη I=>?_;(try simp);(repeat (rw[δ];simp));apply I;refine W.stop ?_;refine V.yd (U _ _ _).here (sp:=sp) ζ.spec (by rw[b2];exact id) ⟨rfl,rfl,by simp[Frame.enter],rfl⟩ rfl rfl rfl ye rfl Z8 mwd (λς w Γ bB=>bB.dz (by rw[Γ];exact ζ.aT)) (λgV fN rJ=>.inl ?_);unfold h0;rw[kh];refine V.bh (U _ _ _) rfl ?_;refine W.bF ?_
 repeat first|apply aZ|apply wb|apply a2|apply wd
 refine W.forget [(0,.z (ptr m 0))] (by simp) ?_;refine W.cj ?_;refine W.part (A:=[]) Ι [0] [1,2] rfl λη I=>?_;(try simp);(repeat (rw[δ];simp));apply I;refine W.stop ?_;refine V.conv (U _ _ _).here (sp:=sp) ζ.spec (by rw[b2];exact id) ⟨rfl,rfl,by simp[Frame.enter],rfl⟩ rfl rfl rfl I0 uH I1 rfl (λς w Γ bB=>⟨_,bB.dz (by rw[Γ];exact ζ.aT)⟩) (λφ ς ο=>?_);unfold h0;rw[kh];refine V.GI ζ.rel rfl (sp:=sp) (L:=L) ζ.spec ζ.aT b2 ⟨⟨rfl,rfl,by simp[Frame.enter],rfl⟩,Pe,⟨_,rfl⟩,rfl,rfl,rfl⟩ λbJ bO H1 t1 ξ ψ=>?_;obtain rfl:bO=[]:=dp.1 ψ.holds.len;obtain⟨bN,E,Τ,af,aX⟩:=cU bJ H1 ξ.ext ψ.holds;refine⟨bN,E,Τ,af,?_⟩;rw[gT];refine V.here (x:=one _) (S:=e6) (B:=[]) (σ:=[]) (m:=0) (nt:=21) ?_ (ψ.none (by simp)) _ rfl;refine V.bh (U _ _ _) rfl ?_;refine W.bF ?_
 repeat first|apply aZ|apply wb|apply a2|apply wd
 refine W.cj (.stop ?_);refine V.disable (U _ _ _).here ⟨⟨rfl,rfl,by simp[Frame.enter],rfl⟩,AI,⟨_,rfl⟩,rfl,rfl,rfl⟩ ?_;rw[AE];refine V.bh (U _ _ _) rfl ?_;refine W.bF ?_
 repeat first|apply aZ|apply wb|apply a2|apply wd
 refine W.cj ?_;refine W.part (A:=[]) Ι [0,1,2] [3,4] rfl λη I=>?_;(try simp);(repeat (rw[δ];simp));apply I;refine W.stop ?_;refine V.O2 (U _ _ _).here (Nat.succ_pos _) (sp:=sp) ζ.spec (by rw[b2];exact id) ζ.aT ⟨⟨rfl,rfl,by simp[Frame.enter],rfl⟩,Pg,⟨_,rfl⟩,rfl,rfl,rfl⟩ (λyf dm rI=>?_);have jv:=rI.jc.ng;rw[b2] at jv;have EF:=jv.hold rfl;have gB:=AL ζ rI.spec;have f1:=jv.wk;have f2:=jv.sv;have f3:=jv.nw;have AT:mwd {dm with cb:=0}=IntKind.i32.wrap (mwd dm+-1):=by simp only[mwd,IntKind.wrap_i32,EF];omega
 have go:∀(t:Tok) (cl:Nat),(dm.sv=0/\(dm.nw=0\/dm.wk=1)/\t=.ch k .done .work)\/(dm.sv=0/\0<dm.nw/\dm.wk=0/\t=.ch k .uc .work)\/(dm.sv=1/\t=.ch k .us .work)->
   PB Q mn x c rest bN s m t (some (cl,{dm with cb:=0})) 1 [.code (dC [1,1,0] AS),.code (dC [1,1,1] AS)] [(0,.z (ptr m 0)),(2,.z (.int .i32 (mwd {dm with cb:=0})))]:=λt cl Ο=>by
  refine V.bh (U _ _ _) rfl ?_;unfold AS
  repeat first|apply aZ|apply wb|apply a2|apply wd
  by_cases Θ:mwd {dm with cb:=0}=0
  ·(repeat (first|apply aZ|apply wb|apply a2|apply wd|refine aj rfl ?_|refine ah rfl ?_|(refine ν λη I=>?_;simp;(repeat (rw[δ];simp[Θ]));apply I)));have Z':t=.ch k .done .work:=by
    simp only[mwd] at Θ;rcases Ο with⟨_,_,h⟩|⟨_,h,_⟩|⟨h,_⟩
    ·exact h
    ·omega
    ·omega
   subst Z';exact .stop (PD ζ aX)
  ·have jY:(mwd {dm with cb:=0} != 0)=true:=by simpa using Θ
   (repeat (first|apply aZ|apply wb|apply a2|apply wd|refine aj rfl ?_|refine ah rfl ?_|(refine ν λη I=>?_;simp;(repeat (rw[δ];simp[Θ,jY]));apply I)));refine W.cj ?_;refine W.part (A:=[]) Ι [0,1] [2] rfl λη I=>?_;(try simp);(repeat (rw[δ];simp));apply I;refine W.stop ?_;refine V.call (U _ _ _) ⟨rfl,rfl,by simp[Frame.enter],rfl⟩ rfl rfl rfl ⟨_,Tryz.func215,rfl,rfl⟩ λjI pg jJ t4 aα sT qm I7=>?_;obtain rfl:=mV (l:=[ptr m 0,.int .i32 (mwd {dm with cb:=0})]) I7;obtain rfl:pg=[]:=dp.1 qm.holds.len;rintro y rfl;refine Z7 ζ (λlΓ ik hI aβ=>?_) (by exact rI.spec) rfl f1 f2 (by show dm.nw<7;omega) Ο;rw[h' rfl];have EG:Ext e6 [] bN e6 [] hI:=(PC sT.ext).trans (PC aβ);refine V.here (x:=one _) (S:=e6) (B:=[]) (σ:=[]) (m:=0) (nt:=21) ?_ ((qm.put (a:=ot) rfl (.z _)).none (by simp)) _ rfl;refine V.bh (U _ _ _) rfl ?_;refine W.bF (.stop ?_);exact PD ζ λv6 I8 I9 bc=>aX v6 I8 I9 (EG.trans bc)
 by_cases nI:dm.sv=1
 ·refine⟨{dm with cb:=0},.ch k .us .work,AT,rfl,⟨rfl,rfl,rfl⟩,by rw[b2];exact .Tf nI,λAR _=>?_⟩;rw[gT];refine V.bh (U _ _ _) rfl ?_;refine W.part (A:=[]) Ι [4] [] rfl λη I=>?_;(try simp);(repeat (rw[δ];simp));(try simp[]);apply I;refine W.bF ?_
  first|apply aZ|apply wb|apply a2|apply wd
  refine W.forget [(0,.z (ptr m 0)),(2,.z (.int .i32 (mwd {dm with cb:=0})))] (by simp) (.stop ?_);exact go _ AR (.inr (.inr ⟨nI,rfl⟩))
 ·have hj:dm.sv=0:=by omega
  have step:∀(t:Tok),(dm.sv=0/\(dm.nw=0\/dm.wk=1)/\t=.ch k .done .work)\/(dm.sv=0/\0<dm.nw/\dm.wk=0/\t=.ch k .uc .work)->Act dm (.ch k .fin .work) {dm with cb:=0} t->∃o' t',mwd o'=IntKind.i32.wrap (mwd dm+-1)/\o'.cX=dm.cX/\yc dm o'/\Act dm (.ch k .fin .work) o' t'/\((dm.sv=0/\(dm.nw=0\/dm.wk=1)/\t'=.ch k .done .work)\/(dm.sv=0/\0<dm.nw/\dm.wk=0/\t'=.ch k .uc .work))/\o'={dm with cb:=0}:=λt J γ=>⟨_,t,AT,rfl,⟨rfl,rfl,rfl⟩,γ,J,rfl⟩;obtain⟨o',t',eR,ew,iE,sC,tW,rfl⟩:∃o' t',mwd o'=IntKind.i32.wrap (mwd dm+-1)/\o'.cX=dm.cX/\yc dm o'/\Act dm (.ch k .fin .work) o' t'/\((dm.sv=0/\(dm.nw=0\/dm.wk=1)/\t'=.ch k .done .work)\/(dm.sv=0/\0<dm.nw/\dm.wk=0/\t'=.ch k .uc .work))/\o'={dm with cb:=0}:=by
   by_cases Η:dm.nw=0\/dm.wk=1
   ·exact step _ (.inl ⟨hj,Η,rfl⟩) (.Td hj Η)
   ·exact step _ (.inr ⟨hj,by omega,by omega,rfl⟩) (.Te hj (by omega) (by omega))
  refine⟨_,t',eR,ew,iE,by rw[b2];exact sC,λAR _=>?_⟩;rw[gT];refine V.bh (U _ _ _) rfl ?_;refine W.part (A:=[]) Ι [4] [] rfl λη I=>?_;(try simp);(repeat (rw[δ];simp));(try simp[]);apply I;refine W.bF ?_
  first|apply aZ|apply wb|apply a2|apply wd
  refine W.forget [(0,.z (ptr m 0)),(2,.z (.int .i32 (mwd {dm with cb:=0})))] (by simp) (.stop ?_);exact go _ AR (tW.imp id λh=>.inl h)
theorem cn.leaveD [bm] {P:Program} {Q:Value->Prop} {mn:Bool} {x:aV} {c b:Frame} {rest:List Frame} {H:Α} {t:Array Value} {ops:Array Oper} {fn:Func} (U:Seq (one x)) (hb:b.mode=.run) (cd:b.roundOf=none) (eC:b.defers=[]) (gJ:b.kind=.deferred) (cf:P.funcs[b.fn]?=some fn) (eT:fn.results=#[])
  (ki:c.mode=.returning) (h:cn P Q mn x c rest H):cn P Q mn x (ar b t [.inRegion ops []]) (c::rest) H:=by
 refine aM.bF (x:=one x) U hb (.sm U hb cd (.G5 U rfl eC gJ cf ?_)) x rfl;rw[results_none eT];refine υ.pure' ?_;simp only[ki];intro y Ξ;cases Ξ;exact h
theorem aγ (ζ:jd x s m sp) (Β:Holds S B σ H) (ki:c.mode=.returning) {L:List Nat}
  (cU:∀(ax:aB) (H':Α),Ext S [] H ax [] H'->Holds ax [] [] H'->∃H1 E,Split H' H1 E/\sp.aH (L++[k]) E/\∀(v:Option (Nat×aN)) (cT:aB) (bN:Α),Ext e6 [] H1 cT [] bN->cn Tryz.prog Q mn (bw x s (.ch k .done .work) v 0) c rest bN) :
  cn Tryz.prog Q mn (bw x s (.ch k (.dc L) .work) v 0) (Frame.enter Tryz.prog 145 #[ptr m 0] .deferred) (c::rest) H:=by
 letI:bm:=ep;have U:=ζ.seq;rw[qj (body:=Tryz.f145.body.getD .skip) Tryz.func145 rfl];refine V.here (x:=one _) (m:=0) (nt:=6) (env:=entry 0 [.z (ptr m 0)]) ?_ (fx.enter Β.bare ⟨rfl,λi a v J γ=>?_⟩ (Nat.le_refl _) (by simp)) _ rfl
 ·refine V.bh (U _ _ _) rfl ?_;simp only[Tryz.f145,Option.getD_some]
  repeat first|apply aZ|apply wb|apply a2|apply wd
  refine W.cj ?_;refine W.part (A:=[]) Ι [0,1,2] [3] rfl λη I=>?_;(try simp);(repeat (rw[δ];simp));apply I;refine W.stop ?_;refine V.call (U _ _ _) ⟨rfl,rfl,by simp[Frame.enter],rfl⟩ rfl rfl rfl ⟨_,Tryz.func176,rfl,rfl⟩ λbJ bO H1 t1 pf ξ ψ hv=>?_;obtain rfl:=mV (l:=[ptr m 0]) hv;obtain rfl:bO=[]:=dp.1 ψ.holds.len;rintro y rfl;refine Z9 ζ ψ.holds (L:=L) λcT bN k6 iU=>?_;obtain⟨jb,E,Τ,af,aX⟩:=cU cT bN (ξ.ext.trans k6) iU;refine⟨jb,E,Τ,af,λv4 jI jJ ov=>?_⟩;rw[h' rfl];refine cn.leaveD (U _ _ _) rfl rfl rfl rfl Tryz.func145 rfl ki ?_;exact aX v4 jI jJ ov
 ·cases i with
  | zero=>simp at J γ;subst J;subst γ;exact .z _
  | succ i=>simp at J
end
end Go.TL
