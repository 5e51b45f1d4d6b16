import Derived.Test.YtlabjopijpkiaaaGreatUAU
set_option maxHeartbeats 16000000
set_option maxRecDepth 20000
set_option linter.unusedSectionVars false
set_option linter.unusedSimpArgs false
set_option linter.unusedVariables false
namespace Go.TL
open Go.Conc Go.Proofs
open Go.ConcN (sumTo upd sumTo_upd upd_ne upd_same sumTo_congr le_sumTo)
structure jq (x:aX) (s m:Nat) (sp:Spec):Prop where
 rel:x.rel=false
 aK:x.aK=λ_=>none
 spec:x.spec s=some sp
 aW:sp.aW=some m
 top:sp.top<7
 still:∀bp,bp≠s->nk (x.tok bp)
theorem jq.seq {x:aX} {s m:Nat} {sp:Spec} (h:jq x s m sp):∀t v d,@Seq eG (one (bx x s t v d)):=λt v d=>@Seq.uL eG _ trivial h.rel h.aK
theorem cw.ZT [bt] {P:Program} {Q:Value->Prop} {mn:Bool} {x:aX} {c b:Frame} {rest:List Frame} {H:χ} {t:Array Value} {ops:Array Oper} {k:List Item} {fn:Func} (γ:Seq (one x)) (hb:b.mode=.run) (cm:b.roundOf=none) (eP:b.defers=[]) (gR:b.kind=.normal) (bY:P.funcs[b.fn]?=some fn) (e5:fn.results=#[])
  (h:cw P Q mn x (c.finish (.tuple #[])) rest H):cw P Q mn x (ax b t (.inRegion ops []::.code .ret::k)) (c::rest) H:=by
 refine aO.bI (x:=one x) γ hb (.ret γ hb cm (.back γ rfl eP (.inl gR) bY ?_)) x rfl;rw[results_none e5];exact π.pure' (λy Ο=>by cases Ο;exact h)
abbrev ptr (b o:Nat):Value:=.pointer (some ⟨b,o,none⟩)
section
variable {Q:Value->Prop} {mn:Bool} {x:aX} {c:Frame} {rest:List Frame} {S:aH} {B:aU} {σ:List Row} {H:χ} {s m k:Nat} {sp:Spec} {v:Option (Nat×aP)}
def tl (Q:Value->Prop) (mn:Bool) (x:aX) (c:Frame) (rest:List Frame) (S:aH) (H:χ) (s k:Nat) (sp:Spec):Prop:=
 ∀(aA:aH) (H':χ) (L:List Nat) (E:χ),Ext S [] H aA [] H'->Holds aA [] [] H'->sp.aN L E->Apart H' E->(L.Nodup/\k∉L/\∃w,Fits H' w/\Fits E w)->cw Tryz.prog Q mn (bx x s (.ch k (.dh L) .work) none 0) (c.finish (.tuple #[])) rest (join H' E)
def PG (Q:Value->Prop) (mn:Bool) (x:aX) (s m k:Nat) (sp:Spec):Prop:=∀(c:Frame) (rest:List Frame) (S:aH) (B:aU) (σ:List Row) (H:χ) (v:Option (Nat×aP)),Holds S B σ H->tl Q mn x c rest S H s k sp->
 cw Tryz.prog Q mn (bx x s (.ch k (.act false) .work) v 1) (Frame.enter Tryz.prog 213 #[ptr m 0] .normal) (c::rest) H
theorem ZU (ε:jq x s m sp) (ω:Holds S B σ H) (ZV:PG Q mn x s m k sp)
  (Ι:tl Q mn x c rest S H s k sp):cw Tryz.prog Q mn (bx x s (.ch k .idle .work) v 0) (Frame.enter Tryz.prog 175 #[ptr m 0] .normal) (c::rest) H:=by
 letI:bt:=eG;have γ:=ε.seq;refine V.qC (z:=one _) (vs:=[ptr m 0]) Tryz.func175 rfl ω (by simp[Tryz.ntmps175]) ?_ _ rfl;refine V.b8 (γ _ _ _) ?_
 repeat first|apply a3|apply wb|apply a4|apply wd
 refine W.cq (.stop ?_);refine V.disable (γ _ _ _).here ⟨⟨rfl,rfl,by simp[Frame.enter],rfl⟩,AW,⟨_,rfl⟩,rfl,rfl,rfl⟩ ?_;rw[AS];refine V.b8 (γ _ _ _) ?_;refine W.bI ?_
 repeat first|apply a3|apply wb|apply a4|apply wd
 refine W.cq ?_;refine ft [0,1,2] [3] ?_;refine W.stop ?_;refine V.ES (γ _ _ _).here (Nat.succ_pos _) (sp:=sp) ε.spec (by rw[b9];exact id) ε.aW ⟨⟨rfl,rfl,by simp[Frame.enter],rfl⟩,EZ,⟨_,rfl⟩,rfl,rfl,rfl⟩ (λφ ο ν hv=>?_) (λφ ο ν hv=>?_)
 ·refine .inr ⟨.ch k (.act false) .work,by rw[b9];exact .Tm,λcu _=>?_⟩;rw[g3];refine V.b8 (γ _ _ _) ?_;refine W.bI ?_
  repeat first|apply a3|apply wb|apply a4|apply wd
  refine aj rfl ?_
  repeat first|apply a3|apply wb|apply a4|apply wd
  refine W.cq ?_;refine ft [0] [1] ?_;refine W.stop ?_;refine V.call (γ _ _ _) ⟨rfl,rfl,by simp[Frame.enter],rfl⟩ rfl rfl rfl ⟨_,Tryz.func213,rfl,rfl⟩ λbM bR H1 t1 po μ ψ hv=>?_;obtain rfl:=m0 (l:=[ptr m 0]) hv;rintro y rfl;refine ZV _ _ bM bR _ H1 _ ψ.holds λc0 bQ L E lq je dp iI wH=>?_;rw[il rfl];refine cw.leave0 (γ _ _ _) rfl rfl rfl rfl Tryz.func175 rfl ?_;obtain rfl:bR=[]:=dw.1 ψ.holds.len;exact Ι c0 bQ L E (μ.ext.trans lq) je dp iI wH
 ·have ai:ο.ck=0/\ο.sv=0/\ο.wk=0/\ο.nw=0:=by simp only[mwd] at hv;omega
  refine⟨{ο with ck:=1},.ch k .own .work,by simp[mwd];omega,rfl,⟨rfl,rfl,rfl⟩,by rw[b9];exact .Tl ai.1 ai.2.1 ai.2.2.1 ai.2.2.2,λcu _=>?_⟩;rw[g3];refine V.b8 (γ _ _ _) ?_;refine W.bI ?_
  repeat first|apply a3|apply wb|apply a4|apply wd
  refine al rfl ?_
  repeat first|apply a3|apply wb|apply a4|apply wd
  refine al rfl ?_
  repeat first|apply a3|apply wb|apply a4|apply wd
  refine W.cq (.stop ?_);refine V.enable (γ _ _ _).here (Nat.succ_pos _) ⟨⟨rfl,rfl,by simp[Frame.enter],rfl⟩,uN,⟨_,rfl⟩,rfl,rfl,rfl⟩ ?_;rw[AT];refine V.b8 (γ _ _ _) ?_;refine W.bI ?_
  repeat first|apply a3|apply wb|apply a4|apply wd
  refine W.cq ?_;refine ft [0] [1,2] ?_;refine W.stop ?_;refine V.conv (γ _ _ _).here (sp:=sp) ε.spec (by rw[b9];exact id) ⟨rfl,rfl,by simp[Frame.enter],rfl⟩ rfl rfl rfl Jf uO Jg rfl (λο w Α bE=>⟨_,bE.dD (by rw[Α];exact ε.aW)⟩) (λφ ο ν=>?_);unfold h7;rw[kv];refine V.CI ε.rel rfl (sp:=sp) ε.spec ε.aW b9 ⟨⟨rfl,rfl,by simp[Frame.enter],rfl⟩,EY,⟨_,rfl⟩,rfl,rfl,rfl⟩ λbM bR H1 t1 L E μ ψ dp iI wH=>?_;rw[g3];obtain rfl:bR=[]:=dw.1 ψ.holds.len;refine cw.ZT (γ _ _ _) rfl rfl rfl rfl Tryz.func175 rfl ?_;exact Ι bM H1 L E μ.ext ψ.holds dp iI wH
end
def dH:List Nat->Code->Code
 | [],c=>c
 | 0::l,.seq a _=>dH l a
 | _::l,.seq _ b=>dH l b
 | 0::l,.cond _ a _=>dH l a
 | _::l,.cond _ _ b=>dH l b
 | _::l,.block _ c=>dH l c
 | _::l,.loop c=>dH l c
 | _,c=>c
noncomputable def qH:Code:=Tryz.f213.body.getD .skip
noncomputable def m2:Code:=dH [1,1,1,1,1,0,0,0] qH
noncomputable def qI:Code:=dH [0,1] m2
noncomputable def rV:Code:=dH [1,1,1,1,1] qI
noncomputable def m3:Code:=dH [1,0] rV
noncomputable def AX:Code:=dH [1,1,1,1,1,1] qH
noncomputable def lr:List Item:=[.inLoop m2,.inBlock 0,.code AX]
abbrev jY (Q:Value->Prop) (mn:Bool) (x:aX) (c:Frame) (rest:List Frame) (S:aH) (H:χ) (s m:Nat) (t:Tok) (v:Option (Nat×aP)) (d:Nat) (K:List Item) (env:aa):Prop:=
 V Tryz.prog Q mn (one (bx x s t v d)) (Frame.enter Tryz.prog 213 #[ptr m 0] .normal) (c::rest) 139 ⟨S,[],H,[],0⟩ K env []
def cY (m:Nat) (w:Int) (aw st:Bool) (it τ:Int):aa:=[(0,.z (ptr m 0)),(2,.z (.int .i64 τ)),(3,.z (.bool st)),(4,.z (.bool aw)),(5,.z (.int .i64 it)),(6,.z (.int .i32 w))]
def pD (a b c n:Nat) (aw st:Bool):Int:=
 if a=0/\c=0 then g4 1 (if aw then 0 else b) 0 n else g4 a (if aw then 0 else b) (if st=true/\a=1 then 1 else c) (n+1)
section
variable {Q:Value->Prop} {mn:Bool} {x:aX} {c:Frame} {rest:List Frame} {S:aH} {B:aU} {σ:List Row} {H:χ} {s m k:Nat} {sp:Spec} {v:Option (Nat×aP)} {t:Tok}
theorem ZW (ε:jq x s m sp) {a b er n:Nat} {aw st:Bool} {it τ:Int} (μ:a<2) (hb:b<2) (jM:er<2) (Η:n<7) (ZX:aw=true->er=0/\b=1) (cH:st=true->aw=true)
  (hC:jY Q mn x c rest S H s m t v 1 (.code (dH [0] rV)::.code (dH [1] rV)::.inBlock 1::lr) (cY m (g4 a b er n) aw st it τ++[(7,.z (.int .i32 (pD a b er n aw st)))])) :
  jY Q mn x c rest S H s m t v 1 (.code qI::.inBlock 1::lr) (cY m (g4 a b er n) aw st it τ):=by
 letI:bt:=eG;have γ:=ε.seq;have h1:(a=0\/a=1)/\(er=0\/er=1):=R;have cG:=Jc a μ b hb er jM n R;have e':=Jb a μ b hb er jM n R;have Δ:=ZF a μ b hb er jM n R;have dz:=ZG a μ b hb er jM n R;have uP:=ZJ a μ b hb er jM n Η;refine V.b8 (γ _ _ _) ?_;unfold qI m2 qH;cases aw with
 | false=>
  have ν:st=false:=by cases st<;>simp_all
  subst ν;rcases h1 with⟨rfl|rfl,rfl|rfl⟩
  ·(repeat (first|apply a3|apply wb|apply a4|apply wd|refine al rfl ?_|refine aj rfl ?_|(refine bC λΕ ζ=>?_;simp;(repeat (rw[Υ];simp[cY,cG,e',dz]));apply ζ)));exact W.forget _ (by simp[cY,pD]) (.stop hC)
  ·(repeat (first|apply a3|apply wb|apply a4|apply wd|refine al rfl ?_|refine aj rfl ?_|(refine bC λΕ ζ=>?_;simp;(repeat (rw[Υ];simp[cY,cG,e',uP]));apply ζ)));exact W.forget _ (by simp[cY,pD]) (.stop hC)
  ·(repeat (first|apply a3|apply wb|apply a4|apply wd|refine al rfl ?_|refine aj rfl ?_|(refine bC λΕ ζ=>?_;simp;(repeat (rw[Υ];simp[cY,cG,e',dz,uP]));apply ζ)));exact W.forget _ (by simp[cY,pD]) (.stop hC)
  ·(repeat (first|apply a3|apply wb|apply a4|apply wd|refine al rfl ?_|refine aj rfl ?_|(refine bC λΕ ζ=>?_;simp;(repeat (rw[Υ];simp[cY,cG,e',uP]));apply ζ)));exact W.forget _ (by simp[cY,pD]) (.stop hC)
 | true=>
  obtain⟨rfl,rfl⟩:=ZX rfl;rcases h1 with⟨rfl|rfl,-⟩
  ·have eB:=EX 1 R 1 R 0 R n R
   have p2:=Jd 1 R 1 R 0 R n R;cases st
   ·(repeat (first|apply a3|apply wb|apply a4|apply wd|refine al rfl ?_|refine aj rfl ?_|(refine bC λΕ ζ=>?_;simp;(repeat (rw[Υ];simp[cY,cG,e',dz,eB,p2]));apply ζ)));exact W.forget _ (by simp[cY,pD]) (.stop hC)
   ·(repeat (first|apply a3|apply wb|apply a4|apply wd|refine al rfl ?_|refine aj rfl ?_|(refine bC λΕ ζ=>?_;simp;(repeat (rw[Υ];simp[cY,cG,e',Δ,dz,eB,p2]));apply ζ)));exact W.forget _ (by simp[cY,pD]) (.stop hC)
  ·cases st
   ·have eB:=EX 1 R 1 R 0 R (n+1) R
    have p2:=Jd 1 R 1 R 0 R (n+1) R;(repeat (first|apply a3|apply wb|apply a4|apply wd|refine al rfl ?_|refine aj rfl ?_|(refine bC λΕ ζ=>?_;simp;(repeat (rw[Υ];simp[cY,cG,e',dz,uP,eB,p2]));apply ζ)));exact W.forget _ (by simp[cY,pD]) (.stop hC)
   ·have jb:=ZI 1 R 1 R 0 R (n+1) R
    have eB:=EX 1 R 1 R 1 R (n+1) R
    have p2:=Jd 1 R 1 R 1 R (n+1) R;(repeat (first|apply a3|apply wb|apply a4|apply wd|refine al rfl ?_|refine aj rfl ?_|(refine bC λΕ ζ=>?_;simp;(repeat (rw[Υ];simp[cY,cG,e',Δ,dz,uP,jb,eB,p2]));apply ζ)));exact W.forget _ (by simp[cY,pD]) (.stop hC)
theorem PH (ε:jq x s m sp) (Ι:tl Q mn x c rest S H s k sp) {env:aa} (ai:a6 env 0=.z (ptr m 0)):jY Q mn x c rest S H s m (.ch k .own .work) v 1 [.code AX] env:=by
 letI:bt:=eG;have γ:=ε.seq;refine V.b8 (γ _ _ _) ?_;unfold AX qH;refine al rfl ?_
 repeat first|apply a3|apply wb|apply a4|apply wd
 refine W.cq (.stop ?_);refine V.enable (γ _ _ _).here (Nat.succ_pos _) ⟨⟨rfl,rfl,by simp[Frame.enter],rfl⟩,uN,⟨_,rfl⟩,rfl,rfl,rfl⟩ ?_;rw[AT];refine V.b8 (γ _ _ _) ?_;refine W.bI ?_
 repeat first|apply a3|apply wb|apply a4|apply wd
 refine W.cq ?_;refine W.part (A:=[]) Φ [0] [1,2] rfl λΕ ζ=>?_;simp;(repeat (rw[Υ];simp[ai]));apply ζ;refine W.stop ?_;refine V.conv (γ _ _ _).here (sp:=sp) ε.spec (by rw[b9];exact id) ⟨rfl,rfl,by simp[Frame.enter],rfl⟩ rfl rfl rfl Jf uO Jg rfl (λο w Α bE=>⟨_,bE.dD (by rw[Α];exact ε.aW)⟩) (λφ ο ν=>?_);unfold h7;rw[kv];refine V.CI ε.rel rfl (sp:=sp) ε.spec ε.aW b9 ⟨⟨rfl,rfl,by simp[Frame.enter],rfl⟩,EY,⟨_,rfl⟩,rfl,rfl,rfl⟩ λbM bR H1 t1 L E μ ψ dp iI wH=>?_;rw[g3];obtain rfl:bR=[]:=dw.1 ψ.holds.len;refine cw.leave0 (γ _ _ _) rfl rfl rfl rfl Tryz.func213 rfl ?_;exact Ι bM H1 L E μ.ext ψ.holds dp iI wH
end
section
variable {Q:Value->Prop} {mn:Bool} {x:aX} {c:Frame} {rest:List Frame} {S:aH} {B:aU} {σ:List Row} {H:χ} {s m k:Nat} {sp:Spec} {v:Option (Nat×aP)} {t:Tok}
theorem E0:(Tryz.prog.funcs[213]?).any (·.norace)=true:=by kernel_rfl
theorem PI:(Tryz.prog.funcs[245]?).any (·.norace)=true:=by kernel_rfl
def AY (Q:Value->Prop) (mn:Bool) (x:aX) (c:Frame) (rest:List Frame) (S:aH) (H:χ) (s m k:Nat) (sp:Spec) (φ:Nat):Prop:=
 ∀(cu:Nat) (ο:aP) (aw st:Bool) (it τ:Int),cu<φ->ο.toSpec=sp->ti ο (.ch k (.act aw) .work)->(st=true->aw=true)->0<=it->it<=4->jY Q mn x c rest S H s m (.ch k (.act aw) .work) (some (cu,ο)) 1 lr (cY m (mwd ο) aw st it τ)
theorem PJ {ο:aP} {aw:Bool} (h:ti ο (.ch k (.act aw) .work)):aw=true->ο.sv=0/\ο.wk=1:=λe=>h.Cd (by rw[e];rfl)
theorem ZY (ε:jq x s m sp) (Ι:tl Q mn x c rest S H s k sp) {φ:Nat} (Β:AY Q mn x c rest S H s m k sp φ) {gL:Nat} {lu:aP} (ai:gL<φ) {st:Bool} {τ:Int} :
  jY Q mn x c rest S H s m (.ch k .wk .work) (some (gL,lu)) 1 (.code (dH [1,1,1,1,1] m3)::.inBlock 1::lr) [(0,.z (ptr m 0)),(2,.z (.int .i64 τ)),(3,.z (.bool st))]:=by
 letI:bt:=eG;have γ:=ε.seq;refine V.b8 (γ _ _ _) ?_;unfold m3 rV qI m2 qH
 repeat first|apply a3|apply wb|apply a4|apply wd
 refine W.cq ?_;refine ft [0,1,2] [3,4] ?_;refine W.stop ?_;refine V.yo (γ _ _ _).here (sp:=sp) ε.spec (by rw[b9];exact id) ⟨rfl,rfl,by simp[Frame.enter],rfl⟩ rfl rfl rfl yp rfl E0 mwd (λο w Α bE=>bE.dD (by rw[Α];exact ε.aW)) (λg5 ο ν=>.inr ?_);have ς:=ν.jo.nm;rw[b9] at ς;have hv:=ν.view gL lu pB;have PK:=ς.zd rfl;have gJ:ο.top<7:=by have:=ε.top;rw[show ο.top=sp.top by rw[<-ν.spec]];exact this
 have Η:=ς.nw
 have υ:=ς.ck;have hw:=ς.wk;have qy:=ς.sv
 have cG:=Jc ο.ck R ο.wk R ο.sv R ο.nw R
 have a0:=ZD ο.ck R ο.wk R ο.sv R ο.nw R
 have md:=Je ο.ck R ο.wk R ο.sv R ο.nw R;rw[<-pC] at cG a0 md;rcases(show ο.sv=0\/ο.sv=1 by omega) with nJ|nJ
 ·refine⟨.ch k (.act true) .work,by rw[b9];exact .norm nJ,λcu ey=>?_⟩;rw[g3];rw[nJ] at cG;refine V.b8 (γ _ _ _) ?_;refine W.part (A:=[]) Φ [4] [] rfl λΕ ζ=>?_;(try simp);(repeat (rw[Υ];simp[]));(try simp[]);apply ζ;refine W.bI ?_;(repeat (first|apply a3|apply wb|apply a4|apply wd|refine al rfl ?_|refine aj rfl ?_|(refine bC λΕ ζ=>?_;simp;(repeat (rw[Υ];simp[cG]));apply ζ)));refine W.forget (cY m (mwd ο) true st 0 τ) (by simp[cY]) (.stop ?_);exact Β cu ο true st 0 τ R ν.spec ⟨ς.ck,ς.wk,ς.sv,ς.c7,ς.nw,λ_=>⟨nJ,PK.1 nJ⟩,λh=>(by cases h),λh=>(by cases h),λh=>(by cases h)⟩ (λ_=>rfl) R R
 ·obtain⟨Τ,af,aZ⟩:=PK.2 nJ;refine⟨.ch k .hw .work,by rw[b9];exact .hand nJ,λcu ey=>?_⟩;rw[g3];rw[nJ] at cG;rw[Τ,af] at a0;have bA:¬ο.nw=0:=R;have PL:IntKind.i32.wrap (-11)=-11:=bD;have fin:∀(w:Option (Nat×aP)) (env:aa),a6 env 0=.z (ptr m 0)->jY Q mn x c rest S H s m (.ch k .own .work) w 1 [.code AX] env:=λw env h=>PH ε Ι h;have add:∀(qZ:Bool) (env:aa),a6 env 0=.z (ptr m 0)->a6 env 9=.z (.int .i32 (if qZ then -11 else -7))->jY Q mn x c rest S H s m (.ch k .hw .work) (some (cu,ο)) 1 (.code (dH [1,1,1,1,1,1,0,1,0,1,1,1,0] m3)::.code (dH [1,1,1,1,1,1,0,1,0,1,1,1,1] m3)::.code (dH [1,1,1,1,1,1,1] m3)::.inBlock 1::lr) env:=λqZ env ai tF=>by
   refine V.b8 (γ _ _ _) ?_;unfold m3 rV qI m2 qH
   repeat first|apply a3|apply wb|apply a4|apply wd
   refine W.cq ?_;refine W.part (A:=[]) Φ [0,1,2,3] [4] rfl λΕ ζ=>?_;(try simp);(repeat (rw[Υ];simp[ai,tF]));(try simp[ai,tF]);apply ζ;refine W.stop ?_;refine V.Pm (γ _ _ _).here (Nat.succ_pos _) (sp:=sp) ε.spec (by rw[b9];exact id) ε.aW (d:=if qZ then -11 else -7) ⟨⟨rfl,rfl,by simp[Frame.enter],rfl⟩,Pz,⟨_,rfl⟩,rfl,rfl,rfl⟩ (λhU fO dX=>?_);have ej:=dX.jo.nm;rw[b9] at ej;obtain⟨f1,f2,f3,f4⟩:=ej.hw rfl;have lο:fO.top<7:=by have:=ε.top;rw[show fO.top=sp.top by rw[<-dX.spec]];exact this
   have AE:=ej.nw;refine⟨{fO with ck:=1,nw:=fO.nw-1,sv:=if qZ then 0 else 1},.ch k .own .work,?_,rfl,⟨rfl,rfl,rfl⟩,by rw[b9];exact .hacq qZ,λyq _=>?_⟩
   ·cases qZ<;>simp[mwd,IntKind.wrap_i32,f1,f2,f3]<;>omega
   ·rw[g3];refine V.b8 (γ _ _ _) ?_;refine W.bI ?_
    repeat first|apply a3|apply wb|apply a4|apply wd
    refine W.exit rfl (.stop ?_);refine fin _ _ ?_;simp[ai]
  refine V.b8 (γ _ _ _) ?_;refine W.part (A:=[]) Φ [4] [] rfl λΕ ζ=>?_;(try simp);(repeat (rw[Υ];simp[]));(try simp[]);apply ζ;refine W.bI ?_;cases st with
  | false=>
   (repeat (first|apply a3|apply wb|apply a4|apply wd|refine al rfl ?_|refine aj rfl ?_|(refine bC λΕ ζ=>?_;simp;(repeat (rw[Υ];simp[cG,a0,md,bA,PL]));apply ζ)));exact .stop (add true _ rfl rfl)
  | true=>
   by_cases I:ο.nw=1
   ·(repeat (first|apply a3|apply wb|apply a4|apply wd|refine al rfl ?_|refine aj rfl ?_|(refine bC λΕ ζ=>?_;simp;(repeat (rw[Υ];simp[cG,a0,md,bA,I,PL]));apply ζ)));exact .stop (add true _ rfl rfl)
   ·have xA:¬(ο.nw:Int)=1:=by omega
    (repeat (first|apply a3|apply wb|apply a4|apply wd|refine al rfl ?_|refine aj rfl ?_|(refine bC λΕ ζ=>?_;simp;(repeat (rw[Υ];simp[cG,a0,md,bA,I,xA]));apply ζ)));exact .stop (add false _ rfl rfl)
theorem ZZ (ε:jq x s m sp) (Ι:tl Q mn x c rest S H s k sp) {φ:Nat} (Β:AY Q mn x c rest S H s m k sp φ) {gL:Nat} {lu:aP} (ai:gL<φ) {st y:Bool} {τ:Int} :
  jY Q mn x c rest S H s m (.ch k .q .work) (some (gL,lu)) 1 (.code (dH [1,1,1,0] m3)::.code (dH [1,1,1,1] m3)::.inBlock 1::lr) [(0,.z (ptr m 0)),(2,.z (.int .i64 τ)),(3,.z (.bool st)),(8,.z (.bool y))]:=by
 letI:bt:=eG;have γ:=ε.seq;have next:∀(g5:Nat) (fW:aP) (st:Bool),g5<φ->jY Q mn x c rest S H s m (.ch k .wk .work) (some (g5,fW)) 1 (.code (dH [1,1,1,1,1] m3)::.inBlock 1::lr) [(0,.z (ptr m 0)),(2,.z (.int .i64 τ)),(3,.z (.bool st))]:=λg5 fW st I=>ZY ε Ι Β I
 refine V.b8 (γ _ _ _) ?_;unfold m3 rV qI m2 qH
 repeat first|apply a3|apply wb|apply a4|apply wd
 refine W.cq ?_;refine ft [0,1,2,3] [4] ?_;refine W.stop ?_;refine V.Zj (γ _ _ _).here (sp:=sp) ε.spec (by rw[b9];exact id) ε.aW (vs:=[ptr m 1,.bool y,.int .i64 2]) rfl (λbp iY=>by rw[AU iY];exact ε.still bp iY) ⟨⟨rfl,rfl,by simp[Frame.enter],rfl⟩,ZQ,⟨_,rfl⟩,rfl,rfl,rfl⟩ (λg5 ο ν h=>by rw[b9];exact h) (λg5 ο ν h=>?_);have hv:=ν.view gL lu pB;refine⟨{ο with c7:=ο.c7-1},.ch k .wk .work,rfl,rfl,⟨rfl,rfl,rfl⟩,by rw[b9];exact .take h,λhU ey=>?_⟩;rw[g3];refine V.b8 (γ _ _ _) ?_;refine W.bI ?_;cases st with
 | true=>
  first|apply a3|apply wb|apply a4|apply wd
  refine bC λΕ ζ=>?_;(try simp);(repeat (rw[Υ];simp[]));(try simp[]);apply ζ;refine W.forget [(0,.z (ptr m 0)),(2,.z (.int .i64 τ)),(3,.z (.bool true))] θ (.stop ?_);exact next hU _ true R
 | false=>
  first|apply a3|apply wb|apply a4|apply wd
  refine W.cq ?_;refine ft [0,1] [2,3,4,5,6,7] ?_;refine W.stop ?_;refine V.nano (γ _ _ _) (vs:=[]) ⟨⟨rfl,rfl,by simp[Frame.enter],rfl⟩,PC,⟨_,rfl⟩,rfl,rfl,rfl⟩ PI λeU=>?_;refine V.b8 (γ _ _ _) ?_;refine W.part (A:=[]) Φ [3,4,5,6,7] [] rfl λΕ ζ=>?_;(try simp);(repeat (rw[Υ];simp[]));(try simp[]);apply ζ;refine W.bI ?_;refine W.forget [(0,.z (ptr m 0)),(2,.z (.int .i64 τ)),(3,.z (.bool (decide (1000000<IntKind.i64.wrap (eU-τ)))))] θ (.stop ?_);exact next hU _ _ R
theorem Z0 (ε:jq x s m sp) (Ι:tl Q mn x c rest S H s k sp) {φ:Nat} (Β:AY Q mn x c rest S H s m k sp φ) {gL:Nat} {lu:aP} (ai:gL<φ) {w:Int} {aw st:Bool} {it τ:Int} (aE:¬e4 .i32 w 5=0) :
  jY Q mn x c rest S H s m (.ch k .q .work) (some (gL,lu)) 1 (.code m3::.inBlock 1::lr) (cY m w aw st it τ):=by
 letI:bt:=eG;have γ:=ε.seq;have next:∀(τ:Int) (y:Bool),jY Q mn x c rest S H s m (.ch k .q .work) (some (gL,lu)) 1 (.code (dH [1,1,1,0] m3)::.code (dH [1,1,1,1] m3)::.inBlock 1::lr) [(0,.z (ptr m 0)),(2,.z (.int .i64 τ)),(3,.z (.bool st)),(8,.z (.bool y))]:=λτ y=>ZZ ε Ι Β ai
 refine V.b8 (γ _ _ _) ?_;unfold m3 rV qI m2 qH;by_cases h:τ=0
 ·subst h;(repeat (first|apply a3|apply wb|apply a4|apply wd|refine al rfl ?_|refine aj rfl ?_|(refine bC λΕ ζ=>?_;simp;(repeat (rw[Υ];simp[cY,aE]));apply ζ)));refine W.cq (.stop ?_);refine V.nano (γ _ _ _) (vs:=[]) ⟨⟨rfl,rfl,by simp[Frame.enter],rfl⟩,PC,⟨_,rfl⟩,rfl,rfl,rfl⟩ PI λeU=>?_;refine V.b8 (γ _ _ _) ?_;refine W.part (A:=[]) Φ [1] [] rfl λΕ ζ=>?_;(try simp);(repeat (rw[Υ];simp[]));(try simp[]);apply ζ;refine W.bI ?_
  first|apply a3|apply wb|apply a4|apply wd
  refine W.forget [(0,.z (ptr m 0)),(2,.z (.int .i64 eU)),(3,.z (.bool st)),(8,.z (.bool false))] θ (.stop ?_);exact next eU false
 ·(repeat (first|apply a3|apply wb|apply a4|apply wd|refine al rfl ?_|refine aj rfl ?_|(refine bC λΕ ζ=>?_;simp;(repeat (rw[Υ];simp[cY,aE,h]));apply ζ)));refine W.forget [(0,.z (ptr m 0)),(2,.z (.int .i64 τ)),(3,.z (.bool st)),(8,.z (.bool true))] (by simp[h]) (.stop ?_);exact next τ true
end
theorem PM {a b:aP} {t u:Tok} (μ:ti a t) (hb:ti b u) (h:mwd a=mwd b):a.ck=b.ck/\a.wk=b.wk/\a.sv=b.sv/\a.nw=b.nw:=by
 have:=μ.ck;have:=μ.wk;have:=μ.sv;have:=hb.ck;have:=hb.wk;have:=hb.sv;simp only[mwd] at h;omega
section
variable {Q:Value->Prop} {mn:Bool} {x:aX} {c:Frame} {rest:List Frame} {S:aH} {B:aU} {σ:List Row} {H:χ} {s m k:Nat} {sp:Spec} {v:Option (Nat×aP)} {t:Tok}
theorem AZ (ε:jq x s m sp) {ο:aP} (h:ο.toSpec=sp):ο.top<7:=by have:=ε.top;rw[show ο.top=sp.top by rw[<-h]];exact this
theorem Z1 (ε:jq x s m sp) (Ι:tl Q mn x c rest S H s k sp) {φ:Nat} {ο:aP} (Β:AY Q mn x c rest S H s m k sp φ) (Α:ο.toSpec=sp) {aw st:Bool} {it τ:Int} (ς:ti ο (.ch k (.act aw) .work)) (cH:st=true->aw=true) (j6:0<=it) (E1:it<=4) :
  jY Q mn x c rest S H s m (.ch k (.act aw) .work) (some (φ,ο)) 1 (.code (dH [0] rV)::.code (dH [1] rV)::.inBlock 1::lr) (cY m (mwd ο) aw st it τ++[(7,.z (.int .i32 (pD ο.ck ο.wk ο.sv ο.nw aw st)))]):=by
 letI:bt:=eG;have γ:=ε.seq;have tQ:=PJ ς;have gJ:=AZ ε Α;have υ:=ς.ck;have hw:=ς.wk;have qy:=ς.sv;have Η:=ς.nw;have e':=Jb ο.ck R ο.wk R ο.sv R ο.nw R;rw[<-pC] at e';have fin:∀(w:Option (Nat×aP)) (env:aa),a6 env 0=.z (ptr m 0)->jY Q mn x c rest S H s m (.ch k .own .work) w 1 [.code AX] env:=λw env h=>PH ε Ι h;have tail:∀(gL:Nat) (lu:aP),gL<φ->¬e4 .i32 (mwd ο) 5=0->jY Q mn x c rest S H s m (.ch k .q .work) (some (gL,lu)) 1 (.code m3::.inBlock 1::lr) (cY m (mwd ο) aw st it τ):=λgL lu ai aE=>Z0 ε Ι Β ai aE;refine V.b8 (γ _ _ _) ?_;unfold rV qI m2 qH;refine W.cq ?_;refine W.part (A:=[]) Φ [0,1,2,3,4] [5] rfl λΕ ζ=>?_;(try simp);(repeat (rw[Υ];simp[cY]));(try simp[cY]);apply ζ;refine W.stop ?_;refine V.ES (γ _ _ _).here (Nat.succ_pos _) (sp:=sp) ε.spec (by rw[b9];exact id) ε.aW ⟨⟨rfl,rfl,by simp[Frame.enter],rfl⟩,EZ,⟨_,rfl⟩,rfl,rfl,rfl⟩ (λg5 fW ν hv=>.inl ?_) (λg5 fW ν hv=>?_)
 ·
  have qe:=ν.view φ ο pB
  have I:g5<φ:=by
   rcases Nat.lt_or_ge g5 φ with h|h
   ·exact h
   ·exact absurd (by rw[qe.2 R]) hv
  unfold h7;rw[kv];refine V.b8 (γ _ _ _) ?_;refine W.bI ?_
  repeat (first|apply a3|apply wb|apply a4|apply wd)
  refine aj rfl ?_;refine W.cq ?_;refine ft [0,1,2] [3,4] ?_;refine W.stop ?_;refine V.yo (γ _ _ _).here (sp:=sp) ε.spec (by rw[b9];exact id) ⟨rfl,rfl,by simp[Frame.enter],rfl⟩ rfl rfl rfl yp rfl E0 mwd (λο w Α bE=>bE.dD (by rw[Α];exact ε.aW)) (λhU fO dX=>.inl ?_);have x':=dX.view g5 fW pB;have ej:=dX.jo.nm;rw[b9] at ej;unfold h7;rw[kv];refine V.b8 (γ _ _ _) ?_;refine W.part (A:=[]) Φ [4] [] rfl λΕ ζ=>?_;(try simp);(repeat (rw[Υ];simp[]));(try simp[]);apply ζ;refine W.bI ?_;refine W.inBlock ?_;refine W.forget (cY m (mwd fO) aw st it τ) (by simp[cY]) (.stop ?_);exact Β hU fO aw st it τ R dX.spec ej cH j6 E1
 ·have qe:=ν.view φ ο pB
  have ij:=ν.jo.nm;rw[b9] at ij;obtain⟨Τ,af,aZ,cA⟩:=PM ij ς hv;by_cases A0:ο.ck=0/\ο.sv=0
  ·refine⟨{fW with ck:=1,wk:=if aw then 0 else fW.wk},.ch k .own .work,?_,rfl,⟨rfl,rfl,rfl⟩,by rw[b9];exact .acq R R,λhU ey=>?_⟩
   ·simp[pD,pC,af,aZ,cA,A0.1,A0.2]
   ·rw[g3];rw[A0.1,A0.2] at e';refine V.b8 (γ _ _ _) ?_;refine W.bI ?_
    repeat (first|apply a3|apply wb|apply a4|apply wd)
    refine al rfl ?_;(repeat (first|apply a3|apply wb|apply a4|apply wd|refine al rfl ?_|refine aj rfl ?_|(refine bC λΕ ζ=>?_;simp;(repeat (rw[Υ];simp[e']));apply ζ)));refine W.exit rfl (.stop ?_);exact fin _ _ rfl
  ·have Ψ:ο.ck=1\/ο.sv=1:=by omega
   refine⟨{fW with nw:=fW.nw+1,wk:=if aw then 0 else fW.wk,sv:=if(st&&decide (ο.ck=1)) then 1 else fW.sv},.ch k .q .work,?_,rfl,⟨rfl,rfl,rfl⟩,by rw[b9];exact .queue (st&&decide (ο.ck=1)) R (λh=>by simp at h;exact⟨cH h.1,R⟩),λhU ey=>?_⟩
   ·simp only[pD,if_neg A0,pC,Τ,af,aZ,cA];simp
   ·rw[g3];refine V.b8 (γ _ _ _) ?_;refine W.bI ?_
    repeat (first|apply a3|apply wb|apply a4|apply wd)
    refine al rfl ?_;refine W.forget (cY m (mwd ο) aw st it τ) (by simp[cY]) (.stop ?_);exact tail hU _ R R
theorem Z2 (ε:jq x s m sp) {φ:Nat} {aw st:Bool} {it τ:Int} {gL:Nat} {lu:aP} (j6:0<=it) (E1:it<4)
  (Β:∀(cu:Nat) (hV:aP),cu<=gL->hV.toSpec=sp->ti hV (.ch k (.act aw) .work)->jY Q mn x c rest S H s m (.ch k (.act aw) .work) (some (cu,hV)) 1 lr (cY m (mwd hV) aw st (it+1) τ)) :
  jY Q mn x c rest S H s m (.ch k (.act aw) .work) (some (gL,lu)) 1 (.code (dH [0,0,1,0,1,0] m2)::.code (dH [0,0,1,0,1,1] m2)::.code qI::.inBlock 1::lr) [(0,.z (ptr m 0)),(2,.z (.int .i64 τ)),(3,.z (.bool st)),(4,.z (.bool aw)),(5,.z (.int .i64 it))]:=by
 letI:bt:=eG;have γ:=ε.seq;have hw:IntKind.i64.wrap (it+1)=it+1:=by simp only[IntKind.wrap_i64];omega
 refine V.b8 (γ _ _ _) ?_;unfold m2 qH
 repeat first|apply a3|apply wb|apply a4|apply wd
 refine W.cq (.stop ?_);refine V.EV (γ _ _ _) (vs:=[]) ⟨⟨rfl,rfl,by simp[Frame.enter],rfl⟩,ZP,⟨_,rfl⟩,rfl,rfl,rfl⟩ ?_;refine V.b8 (γ _ _ _) ?_;refine W.bI ?_
 repeat (first|apply a3|apply wb|apply a4|apply wd)
 refine bC λΕ ζ=>?_;(try simp);(repeat (rw[Υ];simp[hw]));(try simp[hw]);apply ζ
 repeat (first|apply a3|apply wb|apply a4|apply wd)
 refine W.cq ?_;refine ft [0,1,2] [3,4] ?_;refine W.stop ?_;refine V.yo (γ _ _ _).here (sp:=sp) ε.spec (by rw[b9];exact id) ⟨rfl,rfl,by simp[Frame.enter],rfl⟩ rfl rfl rfl yp rfl E0 mwd (λο w Α bE=>bE.dD (by rw[Α];exact ε.aW)) (λhU fO dX=>.inl ?_);have x':=dX.view gL lu pB;have ej:=dX.jo.nm;rw[b9] at ej;unfold h7;rw[kv];refine V.b8 (γ _ _ _) ?_;refine W.part (A:=[]) Φ [4] [] rfl λΕ ζ=>?_;(try simp);(repeat (rw[Υ];simp[]));(try simp[]);apply ζ;refine W.bI ?_;refine W.exit rfl ?_;refine W.forget (cY m (mwd fO) aw st (it+1) τ) (by simp[cY]) (.stop ?_);exact Β hU fO R dX.spec ej
theorem Z3 (ε:jq x s m sp) (Ι:tl Q mn x c rest S H s k sp):∀(N φ:Nat) (ο:aP) (aw st:Bool) (it τ:Int),φ*8+(4-it).toNat<N->ο.toSpec=sp->ti ο (.ch k (.act aw) .work)->(st=true->aw=true)->0<=it->it<=4->
  jY Q mn x c rest S H s m (.ch k (.act aw) .work) (some (φ,ο)) 1 (.code m2::lr) (cY m (mwd ο) aw st it τ):=by
 letI:bt:=eG;have γ:=ε.seq;intro N
 induction N with
 | zero=>intro φ ο aw st it τ h;omega
 | succ N A1=>
  intro φ ο aw st it τ cl Α ς cH j6 E1;have tQ:=PJ ς;have gJ:=AZ ε Α;have υ:=ς.ck;have hw:=ς.wk;have qy:=ς.sv;have Η:=ς.nw;have e':=Jb ο.ck R ο.wk R ο.sv R ο.nw R;have Γ:=EX ο.ck R ο.wk R ο.sv R ο.nw R;have hZ:=ZH ο.ck R ο.wk R ο.sv R ο.nw R;have md:=Je ο.ck R ο.wk R ο.sv R ο.nw R;rw[<-pC] at e' Γ md hZ;have back:∀(cu:Nat) (hV:aP) (nK yr:Bool) (uQ eU:Int),cu*8+(4-uQ).toNat<N->hV.toSpec=sp->ti hV (.ch k (.act nK) .work)->(yr=true->nK=true)->0<=uQ->uQ<=4->
    jY Q mn x c rest S H s m (.ch k (.act nK) .work) (some (cu,hV)) 1 lr (cY m (mwd hV) nK yr uQ eU):=λcu hV nK yr uQ eU I U ξ Κ aE bd=>by
   have:=A1 cu hV nK yr uQ eU I U ξ Κ aE bd;refine V.fL (γ _ _ _) rfl ?_;exact W.inLoop (.stop this)
  have eP:AY Q mn x c rest S H s m k sp φ:=λcu hV nK yr uQ eU I U ξ Κ aE bd=>back cu hV nK yr uQ eU R U ξ Κ aE bd
  have new:jY Q mn x c rest S H s m (.ch k (.act aw) .work) (some (φ,ο)) 1 (.code qI::.inBlock 1::lr) (cY m (mwd ο) aw st it τ):=by
   rw[pC];exact ZW ε R R R R tQ cH (by rw[<-pC];exact Z1 ε Ι eP Α ς cH j6 E1)
  have A2:∀(gL:Nat) (lu:aP) (nK:Bool),it<4->(gL<=φ)->(st=true->nK=true)->jY Q mn x c rest S H s m (.ch k (.act nK) .work) (some (gL,lu)) 1 (.code (dH [0,0,1,0,1,0] m2)::.code (dH [0,0,1,0,1,1] m2)::.code qI::.inBlock 1::lr) [(0,.z (ptr m 0)),(2,.z (.int .i64 τ)),(3,.z (.bool st)),(4,.z (.bool nK)),(5,.z (.int .i64 it))]:=λgL lu nK I U ξ=>
   Z2 ε (φ:=φ) j6 I λcu hV Τ af aZ=>back cu hV nK st (it+1) τ R af aZ ξ R R
  refine V.b8 (γ _ _ _) ?_;unfold m2 qH
  repeat first|apply a3|apply wb|apply a4|apply wd
  by_cases b2:ο.ck=1/\ο.sv=0
  ·rw[b2.1,b2.2] at e';refine W.cq ?_;refine W.part (A:=[]) Φ [0,1,2,3,4] [5,6] rfl λΕ ζ=>?_;(try simp);(repeat (rw[Υ];simp[cY,e']));(try simp[cY,e']);apply ζ;refine W.stop ?_;refine V.canSpin (γ _ _ _) ⟨⟨rfl,rfl,by simp[Frame.enter],rfl⟩,ZO,⟨_,rfl⟩,rfl,rfl,rfl⟩ λy Ο=>?_;refine V.b8 (γ _ _ _) ?_;refine W.part (A:=[]) Φ [6] [] rfl λΕ ζ=>?_;(try simp);(repeat (rw[Υ];simp[cY]));(try simp[cY]);apply ζ;refine W.bI ?_;cases y with
   | false=>
    refine aj rfl ?_
    first|apply a3|apply wb|apply a4|apply wd
    refine W.forget (cY m (mwd ο) aw st it τ) (by simp[cY]) (.stop ?_);exact new
   | true=>
    have Κ:=Ο rfl;refine al rfl ?_
    repeat first|apply a3|apply wb|apply a4|apply wd
    cases aw with
    | true=>
     (repeat (first|apply a3|apply wb|apply a4|apply wd|refine al rfl ?_|refine aj rfl ?_|(refine bC λΕ ζ=>?_;simp;(repeat (rw[Υ];simp[cY]));apply ζ)));refine W.forget [(0,.z (ptr m 0)),(2,.z (.int .i64 τ)),(3,.z (.bool st)),(4,.z (.bool true)),(5,.z (.int .i64 it))] θ (.stop ?_);exact A2 φ ο true Κ (Nat.le_refl _) (λ_=>rfl)
    | false=>
     by_cases E2:ο.wk=0
     ·by_cases rn:ο.nw=0
      ·rw[E2] at Γ;rw[rn] at md;(repeat (first|apply a3|apply wb|apply a4|apply wd|refine al rfl ?_|refine aj rfl ?_|(refine bC λΕ ζ=>?_;simp;(repeat (rw[Υ];simp[cY,Γ,md]));apply ζ)));refine W.forget [(0,.z (ptr m 0)),(2,.z (.int .i64 τ)),(3,.z (.bool st)),(4,.z (.bool false)),(5,.z (.int .i64 it))] θ (.stop ?_);exact A2 φ ο false Κ (Nat.le_refl _) cH
      ·rw[E2] at Γ;have PN:((ο.nw:Int) != 0)=true:=by simp;omega
       refine W.cq ?_;refine W.part (A:=[]) Φ [0,1,2,3,4,5,6,7,8,9,10,11,12,13,14,15,16,17,18] [19,20] rfl λΕ ζ=>?_;(try simp);(repeat (rw[Υ];simp[cY,Γ,md,hZ,rn,PN]));(try simp[cY,Γ,md,hZ,rn,PN]);apply ζ;refine W.stop ?_;refine V.ES (γ _ _ _).here (Nat.succ_pos _) (sp:=sp) ε.spec (by rw[b9];exact id) ε.aW ⟨⟨rfl,rfl,by simp[Frame.enter],rfl⟩,EZ,⟨_,rfl⟩,rfl,rfl,rfl⟩ (λg5 fW ν hv=>.inl ?_) (λg5 fW ν hv=>?_)
       ·have qe:=ν.view φ ο pB;unfold h7;rw[kv];refine V.b8 (γ _ _ _) ?_;refine W.part (A:=[]) Φ [20] [] rfl λΕ ζ=>?_;(try simp);(repeat (rw[Υ];simp[cY]));(try simp[cY]);apply ζ;refine W.bI ?_;refine aj rfl ?_
        repeat (first|apply a3|apply wb|apply a4|apply wd)
        refine W.forget [(0,.z (ptr m 0)),(2,.z (.int .i64 τ)),(3,.z (.bool st)),(4,.z (.bool false)),(5,.z (.int .i64 it))] (by simp[cY]) (.stop ?_);exact A2 g5 fW false Κ R cH
       ·have qe:=ν.view φ ο pB
        have ij:=ν.jo.nm;rw[b9] at ij;obtain⟨Τ,af,aZ,cA⟩:=PM ij ς hv;refine⟨{fW with wk:=1},.ch k (.act true) .work,?_,rfl,⟨rfl,rfl,rfl⟩,by rw[b9];exact .Tn R R R R,λhU ey=>?_⟩
        ·simp[pC,Τ,aZ,cA]
        ·rw[g3];refine V.b8 (γ _ _ _) ?_;refine W.part (A:=[]) Φ [20] [] rfl λΕ ζ=>?_;(try simp);(repeat (rw[Υ];simp[cY]));(try simp[cY]);apply ζ;refine W.bI ?_;refine al rfl ?_;refine bC λΕ ζ=>?_;(try simp);(repeat (rw[Υ];simp[cY]));(try simp[cY]);apply ζ
         repeat (first|apply a3|apply wb|apply a4|apply wd)
         refine W.forget [(0,.z (ptr m 0)),(2,.z (.int .i64 τ)),(3,.z (.bool st)),(4,.z (.bool true)),(5,.z (.int .i64 it))] (by simp[cY]) (.stop ?_);exact A2 hU _ true Κ R (λ_=>rfl)
     ·have jr:ο.wk=1:=by omega
      rw[jr] at Γ;(repeat (first|apply a3|apply wb|apply a4|apply wd|refine al rfl ?_|refine aj rfl ?_|(refine bC λΕ ζ=>?_;simp;(repeat (rw[Υ];simp[cY,Γ]));apply ζ)));refine W.forget [(0,.z (ptr m 0)),(2,.z (.int .i64 τ)),(3,.z (.bool st)),(4,.z (.bool false)),(5,.z (.int .i64 it))] θ (.stop ?_);exact A2 φ ο false Κ (Nat.le_refl _) cH
  ·have aE:¬e4 .i32 (mwd ο) 5=1:=by rw[e'];omega
   refine bC λΕ ζ=>?_;(try simp);(repeat (rw[Υ];simp[cY,aE]));(try simp[cY,aE]);apply ζ;refine aj rfl ?_
   first|apply a3|apply wb|apply a4|apply wd
   refine W.forget (cY m (mwd ο) aw st it τ) (by simp[cY]) (.stop ?_);exact new
theorem Z4 (ε:jq x s m sp):PG Q mn x s m k sp:=by
 intro c rest S B σ H v ω Ι;letI:bt:=eG;have γ:=ε.seq;have head:=λφ ο aw st it τ U ξ Κ aE bd=>Z3 ε Ι (φ*8+(4-it).toNat+1) φ ο aw st it τ (Nat.lt_succ_self _) U ξ Κ aE bd;refine V.qC (z:=one _) (vs:=[ptr m 0]) Tryz.func213 rfl ω (by simp[Tryz.ntmps213]) ?_ _ rfl;refine V.b8 (γ _ _ _) ?_;(repeat (first|apply a3|apply wb|apply a4|apply wd|refine al rfl ?_|refine aj rfl ?_|(refine bC λΕ ζ=>?_;simp;(repeat (rw[Υ];simp[]));apply ζ)));refine W.cq ?_;refine ft [0,1,2] [3,4] ?_;refine W.stop ?_;refine V.yo (γ _ _ _).here (sp:=sp) ε.spec (by rw[b9];exact id) ⟨rfl,rfl,by simp[Frame.enter],rfl⟩ rfl rfl rfl yp rfl E0 mwd (λο w Α bE=>bE.dD (by rw[Α];exact ε.aW)) (λhU fO dX=>.inl ?_);have ej:=dX.jo.nm;rw[b9] at ej;unfold h7;rw[kv];refine V.b8 (γ _ _ _) ?_;refine W.part (A:=[]) Φ [4] [] rfl λΕ ζ=>?_;(try simp);(repeat (rw[Υ];simp[]));(try simp[]);apply ζ;refine W.bI ?_
 repeat (first|apply a3|apply wb|apply a4|apply wd)
 refine W.loop ?_;refine W.forget (cY m (mwd fO) false false 0 0) (by simp[cY]) (.stop ?_);exact head hU fO false false 0 0 dX.spec ej (λh=>by cases h) R R
theorem Z5 (ε:jq x s m sp) (ω:Holds S B σ H) (Ι:tl Q mn x c rest S H s k sp):cw Tryz.prog Q mn (bx x s (.ch k .idle .work) v 0) (Frame.enter Tryz.prog 144 #[ptr m 0] .normal) (c::rest) H:=by
 letI:bt:=eG;have γ:=ε.seq;refine V.qC (z:=one _) (vs:=[ptr m 0]) Tryz.func144 rfl ω (by simp[Tryz.ntmps144]) ?_ _ rfl;refine V.b8 (γ _ _ _) ?_
 repeat first|apply a3|apply wb|apply a4|apply wd
 refine W.cq ?_;refine ft [0,1,2] [3] ?_;refine W.stop ?_;refine V.call (γ _ _ _) ⟨rfl,rfl,by simp[Frame.enter],rfl⟩ rfl rfl rfl ⟨_,Tryz.func175,rfl,rfl⟩ λbM bR H1 t1 po μ ψ hv=>?_;obtain rfl:=m0 (l:=[ptr m 0]) hv;obtain rfl:bR=[]:=dw.1 ψ.holds.len;rintro y rfl;refine ZU ε ψ.holds (Z4 ε) λc0 bQ L E lq je dp iI wH=>?_;rw[il rfl];refine cw.leave0 (γ _ _ _) rfl rfl rfl rfl Tryz.func144 rfl ?_;exact Ι c0 bQ L E (μ.ext.trans lq) je dp iI wH
end
noncomputable def PO:Code:=Tryz.f215.body.getD .skip
noncomputable def Jj:Code:=dH [1,1,0,1,0,0] PO
noncomputable def PQ:List Item:=[.inLoop Jj,.inBlock 0]
theorem Z6:∀n<8,0<n->rj .i32 (IntKind.i32.wrap (g4 0 0 0 n-8)) 2=g4 0 1 0 (n-1):=by decide +kernel
theorem Z7:∀b<2,∀c<2,∀n<8,e4 .i32 (IntKind.i32.wrap (g4 0 b c n+1)) 1=1:=by decide +kernel
abbrev fg:aH:=λ_ _=>none
theorem A3 {S aA:aH} {B B':aU} {σ σ':List Row} {env:aa} {t:Array Value} (he:∀p∈env,∃v,p.2=η.z v) (h:dj S B σ env t):dj aA B' σ' env t:=by
 intro i;have key:∀(env:aa),(∀p∈env,∃v,p.2=η.z v)->(∃v,a6 env i=.z v)\/a6 env i=.cp:=by
  intro env
  induction env with
  | nil=>exact λ_=>.inr rfl
  | cons p l Β=>
   intro h;obtain⟨j,a⟩:=p;simp only[a6];split
   ·exact .inl (h (j,a) θ)
   ·exact Β λq Ψ=>h q (by simp[Ψ])
 have hi:=h i;rcases key env he with⟨v,e⟩|e
 ·rw[e] at hi ⊢;generalize t.getD i undef=u at hi;cases hi;exact .z _
 ·rw[e];exact .cp _
theorem ys (H:χ):Holds fg [] [] H:=⟨λb o v h=>(by cases h),rfl,λid r bo h=>(by simp at h),λi j et cg b gN gO _ h=>(by simp at h),λid r b N h=>(by simp at h)⟩
theorem fI.none {m nt:Nat} {S:aH} {B:aU} {H H':χ} {env:aa} {t:Array Value} (h:fI m nt S B H [] env t) (he:∀p∈env,∃v,p.2=η.z v):fI 0 nt fg [] H' [] env t:=⟨ys H',A3 he h.cx,h.size,Nat.le_refl _⟩
section
variable {Q:Value->Prop} {mn:Bool} {x:aX} {c:Frame} {rest:List Frame} {S:aH} {B:aU} {σ:List Row} {H:χ} {s m k:Nat} {sp:Spec} {v:Option (Nat×aP)} {t:Tok}
abbrev Jk (Q:Value->Prop) (mn:Bool) (x:aX) (c:Frame) (rest:List Frame) (H:χ) (s m:Nat) (w:Int) (t:Tok) (v:Option (Nat×aP)) (K:List Item) (env:aa):Prop:=
 V Tryz.prog Q mn (one (bx x s t v 1)) (Frame.enter Tryz.prog 215 #[ptr m 0,.int .i32 w] .normal) (c::rest) 43 ⟨fg,[],H,[],0⟩ K env []
def A4 (Q:Value->Prop) (mn:Bool) (x:aX) (c:Frame) (rest:List Frame) (H:χ) (s k d:Nat):Prop:=
 ∀(v:Option (Nat×aP)) (c0:aH) (bQ:χ),Ext fg [] H c0 [] bQ->cw Tryz.prog Q mn (bx x s (.ch k .done .work) v d) (c.finish (.tuple #[])) rest bQ
theorem Jl (ε:jq x s m sp) (Ι:A4 Q mn x c rest H s k 1) {w:Int} {K:List Item} {env:aa} (e:t=.ch k .done .work):Jk Q mn x c rest H s m w t v (.code .ret::K) env:=by
 letI:bt:=eG;have γ:=ε.seq;subst e;refine V.I8 (γ _ _ _) rfl rfl rfl rfl Tryz.func215 rfl λbM bR H1 μ ω=>?_;obtain rfl:bR=[]:=dw.1 ω.len;rintro y rfl;exact Ι v bM H1 μ.ext
def PR (k:Nat) (ο:aP) (t:Tok):Prop:=((ο.nw=0\/ο.ck=1\/ο.wk=1\/ο.sv=1)/\t=.ch k .done .work)\/(0<ο.nw/\ο.ck=0/\ο.wk=0/\ο.sv=0/\t=.ch k .uc .work)
theorem PS (ε:jq x s m sp) (Ι:A4 Q mn x c rest H s k 1) {w:Int}:∀(N φ:Nat) (ο:aP) (t:Tok),φ<N->ο.ck<=1->ο.wk<=1->ο.sv<=1->ο.nw<7->PR k ο t->
  Jk Q mn x c rest H s m w t (some (φ,ο)) (.code Jj::PQ) [(0,.z (ptr m 0)),(4,.z (.int .i32 (mwd ο)))]:=by
 letI:bt:=eG;have γ:=ε.seq;intro N
 induction N with
 | zero=>intro φ ο t h;omega
 | succ N A1=>
  intro φ ο t cl υ hw qy Η Ν;have q0:=ZE ο.ck R ο.wk R ο.sv R ο.nw R;have md:=Je ο.ck R ο.wk R ο.sv R ο.nw R;rw[<-pC] at q0 md;have back:∀(cu:Nat) (hV:aP) (t':Tok),cu<N->hV.ck<=1->hV.wk<=1->hV.sv<=1->hV.nw<7->PR k hV t'->Jk Q mn x c rest H s m w t' (some (cu,hV)) PQ [(0,.z (ptr m 0)),(4,.z (.int .i32 (mwd hV)))]:=λcu hV t' I U ξ Κ aE bd=>by
   have:=A1 cu hV t' I U ξ Κ aE bd;refine V.fL (γ _ _ _) rfl ?_;exact W.inLoop (.stop this)
  refine V.b8 (γ _ _ _) ?_;unfold Jj PO
  repeat first|apply a3|apply wb|apply a4|apply wd
  rcases Ν with⟨Ν,rfl⟩|⟨I,U,ξ,Κ,rfl⟩
  ·by_cases Θ:ο.nw=0
   ·rw[Θ] at md;(repeat (first|apply a3|apply wb|apply a4|apply wd|refine al rfl ?_|refine aj rfl ?_|(refine bC λΕ ζ=>?_;simp;(repeat (rw[Υ];simp[md]));apply ζ)));exact .stop (Jl ε Ι rfl)
   ·have gT:¬e4 .i32 (mwd ο) 7=0:=by rw[q0];omega
    have GC:(e4 .i32 (mwd ο) 7 != 0)=true:=by simpa using gT
    (repeat (first|apply a3|apply wb|apply a4|apply wd|refine al rfl ?_|refine aj rfl ?_|(refine bC λΕ ζ=>?_;simp;(repeat (rw[Υ];simp[md,Θ,gT,GC]));apply ζ)));exact .stop (Jl ε Ι rfl)
  ·have Θ:¬ο.nw=0:=by omega
   have kW:¬(ο.nw:Int)=0:=R
   have E3:mwd ο=g4 0 0 0 ο.nw:=by rw[pC,U,ξ,Κ]
   have zf:=Z6 ο.nw R I;rw[<-E3] at zf;rw[U,ξ,Κ] at q0;(repeat (first|apply a3|apply wb|apply a4|apply wd|refine al rfl ?_|refine aj rfl ?_|(refine bC λΕ ζ=>?_;simp;(repeat (rw[Υ];simp[md,Θ,kW,q0]));apply ζ)));refine W.cq ?_;refine W.part (A:=[]) Φ [0,1,2,3,4] [5] rfl λΕ ζ=>?_;(try simp);(repeat (rw[Υ];simp[zf]));(try simp[zf]);apply ζ;refine W.stop ?_;refine V.ES (γ _ _ _).here (Nat.succ_pos _) (sp:=sp) ε.spec (by rw[b9];exact id) ε.aW ⟨⟨rfl,rfl,by simp[Frame.enter],rfl⟩,EZ,⟨_,rfl⟩,rfl,rfl,rfl⟩ (λg5 fW ν hv=>.inl ?_) (λg5 fW ν hv=>?_)
   ·have qe:=ν.view φ ο pB
    have aE:g5<φ:=by
     rcases Nat.lt_or_ge g5 φ with h|h
     ·exact h
     ·exact absurd (by rw[qe.2 R]) hv
    unfold h7;rw[kv];refine V.b8 (γ _ _ _) ?_;refine W.bI ?_;refine aj rfl ?_
    repeat first|apply a3|apply wb|apply a4|apply wd
    refine W.cq ?_;refine ft [0,1,2] [3,4] ?_;refine W.stop ?_;refine V.yo (γ _ _ _).here (sp:=sp) ε.spec (by rw[b9];exact id) ⟨rfl,rfl,by simp[Frame.enter],rfl⟩ rfl rfl rfl yp rfl (by kernel_rfl) mwd (λο w Α bE=>bE.dD (by rw[Α];exact ε.aW)) (λhU fO dX=>?_);have x':=dX.view g5 fW pB;have ej:=dX.jo.nm;have gJ:=AZ ε dX.spec;have Τ:=ej.ck;have af:=ej.wk;have aZ:=ej.sv;have cA:=ej.nw;by_cases tN:fO.nw=0\/fO.ck=1\/fO.wk=1\/fO.sv=1
    ·refine .inr ⟨.ch k .done .work,by rw[b9];exact .Ts tN,λyq ey=>?_⟩;rw[g3];refine V.b8 (γ _ _ _) ?_;refine W.part (A:=[]) Φ [4] [] rfl λΕ ζ=>?_;(try simp);(repeat (rw[Υ];simp[]));(try simp[]);apply ζ;refine W.bI ?_
     repeat (first|apply a3|apply wb|apply a4|apply wd)
     refine W.forget [(0,.z (ptr m 0)),(4,.z (.int .i32 (mwd fO)))] θ (.stop ?_);exact back yq fO _ R Τ af aZ R (.inl ⟨tN,rfl⟩)
    ·refine .inl ?_;unfold h7;rw[kv];refine V.b8 (γ _ _ _) ?_;refine W.part (A:=[]) Φ [4] [] rfl λΕ ζ=>?_;(try simp);(repeat (rw[Υ];simp[]));(try simp[]);apply ζ;refine W.bI ?_
     repeat (first|apply a3|apply wb|apply a4|apply wd)
     refine W.forget [(0,.z (ptr m 0)),(4,.z (.int .i32 (mwd fO)))] θ (.stop ?_);exact back hU fO _ R Τ af aZ R (.inr ⟨R,R,R,R,rfl⟩)
   ·have ij:=ν.jo.nm
    have gJ:=AZ ε ν.spec
    have f1:=ij.ck;have f2:=ij.wk;have f3:=ij.sv;have f4:=ij.nw
    have f5:fW.ck=0/\fW.wk=0/\fW.sv=0/\fW.nw=ο.nw:=by
     rw[E3] at hv;simp only[mwd,g4] at hv;omega
    refine⟨{fW with nw:=fW.nw-1,wk:=1},.ch k .us .work,?_,rfl,⟨rfl,rfl,rfl⟩,by rw[b9];exact .Tr R R R R,λhU ey=>?_⟩
    ·simp[pC,f5]
    ·rw[g3];refine V.b8 (γ _ _ _) ?_;refine W.bI ?_;refine al rfl ?_
     repeat first|apply a3|apply wb|apply a4|apply wd
     refine W.cq ?_;refine ft [0,1,2] [3] ?_;refine W.stop ?_;refine V.Ps (γ _ _ _).here (sp:=sp) ε.spec (by rw[b9];exact id) ε.aW (vs:=[ptr m 1,.bool false,.int .i64 2]) rfl ⟨⟨rfl,rfl,by simp[Frame.enter],rfl⟩,PD,⟨_,rfl⟩,rfl,rfl,rfl⟩ (λyq dt rW=>?_);have jH:=rW.jo.nm;refine⟨by have:=jH.c7;omega,{dt with c7:=dt.c7+1},.ch k .done .work,rfl,rfl,⟨rfl,rfl,rfl⟩,by rw[b9];exact .post,λA5 lπ=>?_⟩;rw[g3];refine V.b8 (γ _ _ _) ?_;refine W.bI (.stop ?_);exact Jl ε Ι rfl
theorem Z8 (ε:jq x s m sp) (Ι:A4 Q mn x c rest H s k 1) {ο:aP} {φ:Nat} (Α:ο.toSpec=sp) (E4:ο.ck=0) (tf:ο.wk<=1) (nJ:ο.sv<=1) (PT:ο.nw<7)
  (Ν:(ο.sv=0/\(ο.nw=0\/ο.wk=1)/\t=.ch k .done .work)\/(ο.sv=0/\0<ο.nw/\ο.wk=0/\t=.ch k .uc .work)\/(ο.sv=1/\t=.ch k .us .work)) :
  cw Tryz.prog Q mn (bx x s t (some (φ,ο)) 1) (Frame.enter Tryz.prog 215 #[ptr m 0,.int .i32 (mwd ο)] .normal) (c::rest) H:=by
 letI:bt:=eG;have γ:=ε.seq;have dL:=Z7 ο.wk R ο.sv R ο.nw R;have cG:=Jc 0 R ο.wk R ο.sv R ο.nw R;have E3:mwd ο=g4 0 ο.wk ο.sv ο.nw:=by rw[pC,E4]
 rw[<-E3] at dL cG;refine V.qC (z:=one _) (vs:=[ptr m 0,.int .i32 (mwd ο)]) (S:=fg) Tryz.func215 rfl (ys H) (by simp[Tryz.ntmps215]) ?_ _ rfl;refine V.b8 (γ _ _ _) ?_;rcases Ν with⟨I,U,rfl⟩|⟨I,U,ξ,rfl⟩|⟨I,rfl⟩
 ·rw[I] at cG;(repeat (first|apply a3|apply wb|apply a4|apply wd|refine al rfl ?_|refine aj rfl ?_|(refine bC λΕ ζ=>?_;simp;(repeat (rw[Υ];simp[dL,cG]));apply ζ)));refine W.loop ?_;refine W.forget [(0,.z (ptr m 0)),(4,.z (.int .i32 (mwd ο)))] θ (.stop ?_);exact PS ε Ι (φ+1) φ ο _ (Nat.lt_succ_self _) R tf nJ PT (.inl ⟨U.imp id λh=>.inr (.inl h),rfl⟩)
 ·rw[I] at cG;(repeat (first|apply a3|apply wb|apply a4|apply wd|refine al rfl ?_|refine aj rfl ?_|(refine bC λΕ ζ=>?_;simp;(repeat (rw[Υ];simp[dL,cG]));apply ζ)));refine W.loop ?_;refine W.forget [(0,.z (ptr m 0)),(4,.z (.int .i32 (mwd ο)))] θ (.stop ?_);exact PS ε Ι (φ+1) φ ο _ (Nat.lt_succ_self _) R tf nJ PT (.inr ⟨U,E4,ξ,I,rfl⟩)
 ·rw[I] at cG;(repeat (first|apply a3|apply wb|apply a4|apply wd|refine al rfl ?_|refine aj rfl ?_|(refine bC λΕ ζ=>?_;simp;(repeat (rw[Υ];simp[dL,cG]));apply ζ)));refine W.cq ?_;refine ft [0,1,2] [3] ?_;refine W.stop ?_;refine V.Ps (γ _ _ _).here (sp:=sp) ε.spec (by rw[b9];exact id) ε.aW (vs:=[ptr m 1,.bool true,.int .i64 2]) rfl ⟨⟨rfl,rfl,by simp[Frame.enter],rfl⟩,PD,⟨_,rfl⟩,rfl,rfl,rfl⟩ (λg5 fW ν=>?_);have ij:=ν.jo.nm;refine⟨by have:=ij.c7;omega,{fW with c7:=fW.c7+1},.ch k .done .work,rfl,rfl,⟨rfl,rfl,rfl⟩,by rw[b9];exact .post,λhU ey=>?_⟩;rw[g3];refine V.b8 (γ _ _ _) ?_;refine W.bI (.stop ?_);refine V.EU (γ _ _ _) rfl rfl rfl rfl Tryz.func215 rfl λbM bR H1 μ ω=>?_;obtain rfl:bR=[]:=dw.1 ω.len;rintro y rfl;exact Ι _ bM H1 μ.ext
end
noncomputable def A6:Code:=Tryz.f176.body.getD .skip
theorem Z9:(Tryz.prog.funcs[176]?).any (·.norace)=true:=by kernel_rfl
section
variable {Q:Value->Prop} {mn:Bool} {x:aX} {c:Frame} {rest:List Frame} {S:aH} {B:aU} {σ:List Row} {H:χ} {s m k:Nat} {sp:Spec} {v:Option (Nat×aP)} {t:Tok}
abbrev PU (Q:Value->Prop) (mn:Bool) (x:aX) (c:Frame) (rest:List Frame) (H:χ) (s m:Nat) (t:Tok) (v:Option (Nat×aP)) (d:Nat) (K:List Item) (env:aa):Prop:=
 V Tryz.prog Q mn (one (bx x s t v d)) (Frame.enter Tryz.prog 176 #[ptr m 0] .normal) (c::rest) 21 ⟨fg,[],H,[],0⟩ K env []
theorem PV {aA:aH} {H H':χ} (h:Ext fg [] H aA [] H'):Ext fg [] H fg [] H':=
 ⟨λb o v h=>(by cases h),λb hb Χ=>h.fQ b hb Χ,λb hb=>h.blocks b hb,λb o v h=>(by cases h),h.grow⟩
theorem PW (ε:jq x s m sp) (Ι:A4 Q mn x c rest H s k 0) {env:aa}:PU Q mn x c rest H s m (.ch k .done .work) v 1 [.code (dH [1,1,1] A6)] env:=by
 letI:bt:=eG;have γ:=ε.seq;refine V.b8 (γ _ _ _) ?_;unfold A6;refine W.cq (.stop ?_);refine V.enable (γ _ _ _).here (Nat.succ_pos _) ⟨⟨rfl,rfl,by simp[Frame.enter],rfl⟩,uN,⟨_,rfl⟩,rfl,rfl,rfl⟩ ?_;rw[AT];refine V.b8 (γ _ _ _) ?_;refine W.bI (.stop ?_);refine V.EU (γ _ _ _) rfl rfl rfl rfl Tryz.func176 rfl λbM bR H1 μ ω=>?_;obtain rfl:bR=[]:=dw.1 ω.len;rintro y rfl;exact Ι _ bM H1 μ.ext
theorem Z' (ε:jq x s m sp) (ω:Holds S B σ H) {L:List Nat}
  (c5:∀(aA:aH) (H':χ),Ext S [] H aA [] H'->Holds aA [] [] H'->∃H1 E,Split H' H1 E/\sp.aN (L++[k]) E/\A4 Q mn x c rest H1 s k 0) :
  cw Tryz.prog Q mn (bx x s (.ch k (.dh L) .work) v 0) (Frame.enter Tryz.prog 176 #[ptr m 0] .normal) (c::rest) H:=by
 letI:bt:=eG;have γ:=ε.seq;refine V.qC (z:=one _) (vs:=[ptr m 0]) Tryz.func176 rfl ω (by simp[Tryz.ntmps176]) ?_ _ rfl;refine V.b8 (γ _ _ _) ?_
 repeat first|apply a3|apply wb|apply a4|apply wd
 refine al rfl ?_
 repeat first|apply a3|apply wb|apply a4|apply wd
 refine W.cq ?_;refine ft [0,1,2] [3] ?_;refine W.stop ?_;refine V.yo (γ _ _ _).here (sp:=sp) ε.spec (by rw[b9];exact id) ⟨rfl,rfl,by simp[Frame.enter],rfl⟩ rfl rfl rfl yp rfl Z9 mwd (λο w Α bE=>bE.dD (by rw[Α];exact ε.aW)) (λg5 fW rX=>.inl ?_);unfold h7;rw[kv];refine V.b8 (γ _ _ _) ?_;refine W.bI ?_
 repeat first|apply a3|apply wb|apply a4|apply wd
 refine W.forget [(0,.z (ptr m 0))] θ ?_;refine W.cq ?_;refine ft [0] [1,2] ?_;refine W.stop ?_;refine V.conv (γ _ _ _).here (sp:=sp) ε.spec (by rw[b9];exact id) ⟨rfl,rfl,by simp[Frame.enter],rfl⟩ rfl rfl rfl Jf uO Jg rfl (λο w Α bE=>⟨_,bE.dD (by rw[Α];exact ε.aW)⟩) (λφ ο ν=>?_);unfold h7;rw[kv];refine V.G2 ε.rel rfl (sp:=sp) (L:=L) ε.spec ε.aW b9 ⟨⟨rfl,rfl,by simp[Frame.enter],rfl⟩,Px,⟨_,rfl⟩,rfl,rfl,rfl⟩ λbM bR H1 t1 μ ψ=>?_;obtain rfl:bR=[]:=dw.1 ψ.holds.len;obtain⟨bQ,E,Τ,af,aZ⟩:=c5 bM H1 μ.ext ψ.holds;refine⟨bQ,E,Τ,af,?_⟩;rw[g3];refine V.here (x:=one _) (S:=fg) (B:=[]) (σ:=[]) (m:=0) (nt:=21) ?_ (ψ.none θ) _ rfl;refine V.b8 (γ _ _ _) ?_;refine W.bI ?_
 repeat first|apply a3|apply wb|apply a4|apply wd
 refine W.cq (.stop ?_);refine V.disable (γ _ _ _).here ⟨⟨rfl,rfl,by simp[Frame.enter],rfl⟩,AW,⟨_,rfl⟩,rfl,rfl,rfl⟩ ?_;rw[AS];refine V.b8 (γ _ _ _) ?_;refine W.bI ?_
 repeat first|apply a3|apply wb|apply a4|apply wd
 refine W.cq ?_;refine ft [0,1,2] [3,4] ?_;refine W.stop ?_;refine V.Pm (γ _ _ _).here (Nat.succ_pos _) (sp:=sp) ε.spec (by rw[b9];exact id) ε.aW ⟨⟨rfl,rfl,by simp[Frame.enter],rfl⟩,Pz,⟨_,rfl⟩,rfl,rfl,rfl⟩ (λyq dt rW=>?_);have jH:=rW.jo.nm;rw[b9] at jH;have E4:=jH.hold rfl;have gJ:=AZ ε rW.spec;have f1:=jH.wk;have f2:=jH.sv;have f3:=jH.nw;have A7:mwd {dt with ck:=0}=IntKind.i32.wrap (mwd dt+-1):=by simp only[mwd,IntKind.wrap_i32,E4];omega
 have go:∀(t:Tok) (cu:Nat),(dt.sv=0/\(dt.nw=0\/dt.wk=1)/\t=.ch k .done .work)\/(dt.sv=0/\0<dt.nw/\dt.wk=0/\t=.ch k .uc .work)\/(dt.sv=1/\t=.ch k .us .work)->
   PU Q mn x c rest bQ s m t (some (cu,{dt with ck:=0})) 1 [.code (dH [1,1,0] A6),.code (dH [1,1,1] A6)] [(0,.z (ptr m 0)),(2,.z (.int .i32 (mwd {dt with ck:=0})))]:=λt cu Ν=>by
  refine V.b8 (γ _ _ _) ?_;unfold A6
  repeat first|apply a3|apply wb|apply a4|apply wd
  by_cases Θ:mwd {dt with ck:=0}=0
  ·(repeat (first|apply a3|apply wb|apply a4|apply wd|refine al rfl ?_|refine aj rfl ?_|(refine bC λΕ ζ=>?_;simp;(repeat (rw[Υ];simp[Θ]));apply ζ)));have aα:t=.ch k .done .work:=by
    simp only[mwd] at Θ;rcases Ν with⟨_,_,h⟩|⟨_,h,_⟩|⟨h,_⟩
    ·exact h
    ·omega
    ·omega
   subst aα;exact .stop (PW ε aZ)
  ·have kW:(mwd {dt with ck:=0} != 0)=true:=by simpa using Θ
   (repeat (first|apply a3|apply wb|apply a4|apply wd|refine al rfl ?_|refine aj rfl ?_|(refine bC λΕ ζ=>?_;simp;(repeat (rw[Υ];simp[Θ,kW]));apply ζ)));refine W.cq ?_;refine ft [0,1] [2] ?_;refine W.stop ?_;refine V.call (γ _ _ _) ⟨rfl,rfl,by simp[Frame.enter],rfl⟩ rfl rfl rfl ⟨_,Tryz.func215,rfl,rfl⟩ λjT pq jU t4 aβ s0 qt Jm=>?_;obtain rfl:=m0 (l:=[ptr m 0,.int .i32 (mwd {dt with ck:=0})]) Jm;obtain rfl:pq=[]:=dw.1 qt.holds.len;rintro y rfl;refine Z8 ε (λlρ iw hS aγ=>?_) (by exact rW.spec) rfl f1 f2 (by show dt.nw<7;omega) Ν;rw[il rfl];have E5:Ext fg [] bQ fg [] hS:=(PV s0.ext).trans (PV aγ);refine V.here (x:=one _) (S:=fg) (B:=[]) (σ:=[]) (m:=0) (nt:=21) ?_ ((qt.put (a:=oy) rfl (.z _)).none θ) _ rfl;refine V.b8 (γ _ _ _) ?_;refine W.bI (.stop ?_);exact PW ε λv6 Jn Jo bd=>aZ v6 Jn Jo (E5.trans bd)
 by_cases nJ:dt.sv=1
 ·refine⟨{dt with ck:=0},.ch k .us .work,A7,rfl,⟨rfl,rfl,rfl⟩,by rw[b9];exact .Tq nJ,λA5 _=>?_⟩;rw[g3];refine V.b8 (γ _ _ _) ?_;refine W.part (A:=[]) Φ [4] [] rfl λΕ ζ=>?_;(try simp);(repeat (rw[Υ];simp[]));(try simp[]);apply ζ;refine W.bI ?_
  first|apply a3|apply wb|apply a4|apply wd
  refine W.forget [(0,.z (ptr m 0)),(2,.z (.int .i32 (mwd {dt with ck:=0})))] θ (.stop ?_);exact go _ A5 (.inr (.inr ⟨nJ,rfl⟩))
 ·have ht:dt.sv=0:=by omega
  have step:∀(t:Tok),(dt.sv=0/\(dt.nw=0\/dt.wk=1)/\t=.ch k .done .work)\/(dt.sv=0/\0<dt.nw/\dt.wk=0/\t=.ch k .uc .work)->Act dt (.ch k .fin .work) {dt with ck:=0} t->∃o' t',mwd o'=IntKind.i32.wrap (mwd dt+-1)/\o'.c7=dt.c7/\yn dt o'/\Act dt (.ch k .fin .work) o' t'/\((dt.sv=0/\(dt.nw=0\/dt.wk=1)/\t'=.ch k .done .work)\/(dt.sv=0/\0<dt.nw/\dt.wk=0/\t'=.ch k .uc .work))/\o'={dt with ck:=0}:=λt I U=>⟨_,t,A7,rfl,⟨rfl,rfl,rfl⟩,U,I,rfl⟩;obtain⟨o',t',e3,eK,iO,sK,uf,rfl⟩:∃o' t',mwd o'=IntKind.i32.wrap (mwd dt+-1)/\o'.c7=dt.c7/\yn dt o'/\Act dt (.ch k .fin .work) o' t'/\((dt.sv=0/\(dt.nw=0\/dt.wk=1)/\t'=.ch k .done .work)\/(dt.sv=0/\0<dt.nw/\dt.wk=0/\t'=.ch k .uc .work))/\o'={dt with ck:=0}:=by
   by_cases Η:dt.nw=0\/dt.wk=1
   ·exact step _ (.inl ⟨ht,Η,rfl⟩) (.To ht Η)
   ·exact step _ (.inr ⟨ht,R,R,rfl⟩) (.Tp ht R R)
  refine⟨_,t',e3,eK,iO,by rw[b9];exact sK,λA5 _=>?_⟩;rw[g3];refine V.b8 (γ _ _ _) ?_;refine W.part (A:=[]) Φ [4] [] rfl λΕ ζ=>?_;(try simp);(repeat (rw[Υ];simp[]));(try simp[]);apply ζ;refine W.bI ?_
  first|apply a3|apply wb|apply a4|apply wd
  refine W.forget [(0,.z (ptr m 0)),(2,.z (.int .i32 (mwd {dt with ck:=0})))] θ (.stop ?_);exact go _ A5 (uf.imp id λh=>.inl h)
theorem cw.leaveD [bt] {P:Program} {Q:Value->Prop} {mn:Bool} {x:aX} {c b:Frame} {rest:List Frame} {H:χ} {t:Array Value} {ops:Array Oper} {fn:Func} (γ:Seq (one x)) (hb:b.mode=.run) (cm:b.roundOf=none) (eP:b.defers=[]) (gR:b.kind=.deferred) (bY:P.funcs[b.fn]?=some fn) (e5:fn.results=#[])
  (qJ:c.mode=.returning) (h:cw P Q mn x c rest H):cw P Q mn x (ax b t [.inRegion ops []]) (c::rest) H:=by
 refine aO.bI (x:=one x) γ hb (.sy γ hb cm (.Hm γ rfl eP gR bY ?_)) x rfl;rw[results_none e5];refine π.pure' ?_;simp only[qJ];intro y Ο;cases Ο;exact h
theorem aδ (ε:jq x s m sp) (ω:Holds S B σ H) (qJ:c.mode=.returning) {L:List Nat}
  (c5:∀(aA:aH) (H':χ),Ext S [] H aA [] H'->Holds aA [] [] H'->∃H1 E,Split H' H1 E/\sp.aN (L++[k]) E/\∀(v:Option (Nat×aP)) (c0:aH) (bQ:χ),Ext fg [] H1 c0 [] bQ->cw Tryz.prog Q mn (bx x s (.ch k .done .work) v 0) c rest bQ) :
  cw Tryz.prog Q mn (bx x s (.ch k (.dh L) .work) v 0) (Frame.enter Tryz.prog 145 #[ptr m 0] .deferred) (c::rest) H:=by
 letI:bt:=eG;have γ:=ε.seq;rw[qp (body:=Tryz.f145.body.getD .skip) Tryz.func145 rfl];refine V.here (x:=one _) (m:=0) (nt:=6) (env:=entry 0 [.z (ptr m 0)]) ?_ (fI.enter ω.bare ⟨rfl,λi a v I U=>?_⟩ (Nat.le_refl _) θ) _ rfl
 ·refine V.fL (γ _ _ _) rfl ?_;simp only[Tryz.f145,Option.getD_some]
  repeat first|apply a3|apply wb|apply a4|apply wd
  refine W.cq ?_;refine ft [0,1,2] [3] ?_;refine W.stop ?_;refine V.call (γ _ _ _) ⟨rfl,rfl,by simp[Frame.enter],rfl⟩ rfl rfl rfl ⟨_,Tryz.func176,rfl,rfl⟩ λbM bR H1 t1 po μ ψ hv=>?_;obtain rfl:=m0 (l:=[ptr m 0]) hv;obtain rfl:bR=[]:=dw.1 ψ.holds.len;rintro y rfl;refine Z' ε ψ.holds (L:=L) λc0 bQ lq je=>?_;obtain⟨jm,E,Τ,af,aZ⟩:=c5 c0 bQ (μ.ext.trans lq) je;refine⟨jm,E,Τ,af,λv4 jT jU oA=>?_⟩;rw[il rfl];refine cw.leaveD (γ _ _ _) rfl rfl rfl rfl Tryz.func145 rfl qJ ?_;exact aZ v4 jT jU oA
 ·cases i with
  | zero=>simp at I U;subst I;subst U;exact .z _
  | succ i=>simp at I
end
structure me (x:aX) (s:Nat) (sp:Spec):Prop where
 rel:x.rel=false
 aK:x.aK=λ_=>none
 spec:x.spec s=some sp
 top:sp.top<7
 still:∀bp,bp≠s->nk (x.tok bp)
theorem me.seq {x:aX} {s:Nat} {sp:Spec} (h:me x s sp):∀t v d,@Seq eG (one (bx x s t v d)):=λt v d=>@Seq.uL eG _ trivial h.rel h.aK
abbrev h2 (c w:Nat):Int:=(c:Int)*4294967296+w
theorem E6:∀c<8,∀w<2,e4 .u64 (h2 c w) 2147483648=0:=by decide +kernel
theorem E7:∀c<8,∀w<2,IntKind.i32.wrap ((h2 c w).fdiv (2 ^ min 32 IntKind.u64.bits))=c:=by decide +kernel
theorem E8:∀c<8,∀w<2,IntKind.u32.wrap (e4 .u64 (h2 c w) 2147483647)=w:=by decide +kernel
theorem aε:∀c<7,∀w<2,IntKind.u64.wrap (h2 c w+4294967296)=h2 (c+1) w:=by decide +kernel
theorem aζ:∀c<8,∀w<2,0<c->IntKind.u64.wrap (h2 c w+18446744069414584320)=h2 (c-1) w:=by decide +kernel
theorem aη:∀c<8,IntKind.u64.wrap (h2 c 0+1)=h2 c 1:=by decide +kernel
theorem PX:IntKind.u64.wrap 1=1:=bD
theorem PY:IntKind.u64.wrap (2 ^ min 32 IntKind.u64.bits)=4294967296:=bD
theorem Jp:IntKind.i32.wrap 1=1:=bD
theorem uR (ο:aP):cR ο=h2 ο.cnt ο.wt:=rfl
section
variable {Q:Value->Prop} {mn:Bool} {x:aX} {c:Frame} {rest:List Frame} {S:aH} {B:aU} {σ:List Row} {H:χ} {s k:Nat} {sp:Spec} {v:Option (Nat×aP)} {t:Tok}
theorem E9 (ε:me x s sp) {ο:aP} (h:ο.toSpec=sp):ο.top<7:=by have:=ε.top;rw[show ο.top=sp.top by rw[<-h]];exact this
def yt (Q:Value->Prop) (mn:Bool) (x:aX) (c:Frame) (rest:List Frame) (S:aH) (H:χ) (r:Value):Prop:=
 ∀(aA:aH) (H':χ),Ext S [] H aA [] H'->Holds aA [] [] H'->cw Tryz.prog Q mn x (c.finish r) rest H'
theorem aθ (ε:me x s sp) (cN:¬fZ t) {d:Int} (ω:Holds S B σ H)
  (dr:∀φ ο,Seen (bx x s t v 1) s sp φ ο->∃o' t',cR o'=IntKind.u64.wrap (cR ο+d)/\o'.cL=ο.cL/\rU ο o'/\Act ο t o' t'/\∀cu,cu<φ->yt Q mn (bx x s t' (some (cu,o')) 1) c rest S H (.int .u64 (cR o'))) :
  cw Tryz.prog Q mn (bx x s t v 1) (Frame.enter Tryz.prog 166 #[ptr s 0,.int .u64 d] .normal) (c::rest) H:=by
 letI:bt:=eG;have γ:=ε.seq;refine V.qC (z:=one _) (vs:=[ptr s 0,.int .u64 d]) Tryz.func166 rfl ω (by simp[Tryz.ntmps166]) ?_ _ rfl;refine V.b8 (γ _ _ _) ?_;(repeat (first|apply a3|apply wb|apply a4|apply wd|refine al rfl ?_|refine aj rfl ?_|(refine bC λΕ ζ=>?_;simp;(repeat (rw[Υ];simp[]));apply ζ)));refine W.cq ?_;refine ft [0,1,2,3] [4,5] ?_;refine W.stop ?_;refine V.I7 (γ _ _ _).here (Nat.succ_pos _) (sp:=sp) ε.spec (by rw[b9];exact cN) ⟨⟨rfl,rfl,by simp[Frame.enter],rfl⟩,PA,⟨_,rfl⟩,rfl,rfl,rfl⟩ (λφ ο ν=>?_);obtain⟨o',t',I,U,ξ,Κ,aE⟩:=dr φ ο ν;refine⟨o',t',I,U,ξ,by rw[b9];exact Κ,λcu ey=>?_⟩;rw[g3];refine V.b8 (γ _ _ _) ?_;refine W.part (A:=[]) Φ [5] [] rfl λΕ ζ=>?_;(try simp);(repeat (rw[Υ];simp[]));(try simp[]);apply ζ;refine W.bI (.stop ?_);refine V.tg (γ _ _ _) rfl rfl rfl rfl Tryz.func166 rfl rfl λbM bR H1 μ jL=>?_;obtain rfl:bR=[]:=dw.1 jL.len;rintro y rfl;exact aE cu ey bM H1 μ.ext jL
theorem Jq (ε:me x s sp) (cN:¬fZ t) (ω:Holds S B σ H)
  (dr:∀φ ο,Seen (bx x s t v 1) s sp φ ο->yt Q mn (bx x s t (some (φ,ο)) 1) c rest S H (.int .u64 (cR ο))\/∃t',Act ο t ο t'/\∀cu,cu<φ->yt Q mn (bx x s t' (some (cu,ο)) 1) c rest S H (.int .u64 (cR ο))) :
  cw Tryz.prog Q mn (bx x s t v 1) (Frame.enter Tryz.prog 168 #[ptr s 0] .normal) (c::rest) H:=by
 letI:bt:=eG;have γ:=ε.seq;refine V.qC (z:=one _) (vs:=[ptr s 0]) Tryz.func168 rfl ω (by simp[Tryz.ntmps168]) ?_ _ rfl;refine V.b8 (γ _ _ _) ?_;(repeat (first|apply a3|apply wb|apply a4|apply wd|refine al rfl ?_|refine aj rfl ?_|(refine bC λΕ ζ=>?_;simp;(repeat (rw[Υ];simp[]));apply ζ)));refine W.cq ?_;refine ft [0,1,2] [3,4] ?_;refine W.stop ?_;refine V.I6 (γ _ _ _).here (Nat.succ_pos _) (sp:=sp) ε.spec (by rw[b9];exact cN) ⟨⟨rfl,rfl,by simp[Frame.enter],rfl⟩,PB,⟨_,rfl⟩,rfl,rfl,rfl⟩ (λφ ο ν=>(dr φ ο ν).imp (λh=>?_) (λ⟨t',Κ,aE⟩=>⟨t',by rw[b9];exact Κ,λcu ey=>?_⟩))
 ·unfold h7;rw[kv];refine V.b8 (γ _ _ _) ?_;refine W.part (A:=[]) Φ [4] [] rfl λΕ ζ=>?_;(try simp);(repeat (rw[Υ];simp[]));(try simp[]);apply ζ;refine W.bI (.stop ?_);refine V.tg (γ _ _ _) rfl rfl rfl rfl Tryz.func168 rfl rfl λbM bR H1 μ jL=>?_;obtain rfl:bR=[]:=dw.1 jL.len;rintro y rfl;exact h bM H1 μ.ext jL
 ·rw[g3];refine V.b8 (γ _ _ _) ?_;refine W.part (A:=[]) Φ [4] [] rfl λΕ ζ=>?_;(try simp);(repeat (rw[Υ];simp[]));(try simp[]);apply ζ;refine W.bI (.stop ?_);refine V.tg (γ _ _ _) rfl rfl rfl rfl Tryz.func168 rfl rfl λbM bR H1 μ jL=>?_;obtain rfl:bR=[]:=dw.1 jL.len;rintro y rfl;exact aE cu ey bM H1 μ.ext jL
theorem aι (ε:me x s sp) (cN:¬fZ t) (ω:Holds S B σ H) {old new:Int}
  (AR:∀φ ο,Seen (bx x s t v 1) s sp φ ο->¬cR ο=old->yt Q mn (bx x s t (some (φ,ο)) 1) c rest S H (.bool false))
  (dr:∀φ ο,Seen (bx x s t v 1) s sp φ ο->cR ο=old->∃o' t',cR o'=new/\o'.cL=ο.cL/\rU ο o'/\Act ο t o' t'/\∀cu,cu<φ->yt Q mn (bx x s t' (some (cu,o')) 1) c rest S H (.bool true)) :
  cw Tryz.prog Q mn (bx x s t v 1) (Frame.enter Tryz.prog 179 #[ptr s 0,.int .u64 old,.int .u64 new] .normal) (c::rest) H:=by
 letI:bt:=eG;have γ:=ε.seq;refine V.qC (z:=one _) (vs:=[ptr s 0,.int .u64 old,.int .u64 new]) Tryz.func179 rfl ω (by simp[Tryz.ntmps179]) ?_ _ rfl;refine V.b8 (γ _ _ _) ?_;(repeat (first|apply a3|apply wb|apply a4|apply wd|refine al rfl ?_|refine aj rfl ?_|(refine bC λΕ ζ=>?_;simp;(repeat (rw[Υ];simp[]));apply ζ)));refine W.cq ?_;refine ft [0,1,2,3,4] [5,6] ?_;refine W.stop ?_;refine V.Zi (γ _ _ _).here (Nat.succ_pos _) (sp:=sp) ε.spec (by rw[b9];exact cN) ⟨⟨rfl,rfl,by simp[Frame.enter],rfl⟩,ZM,⟨_,rfl⟩,rfl,rfl,rfl⟩ (λφ ο ν hv=>?_) (λφ ο ν hv=>?_)
 ·have h:=AR φ ο ν hv;unfold h7;rw[kv];refine V.b8 (γ _ _ _) ?_;refine W.part (A:=[]) Φ [6] [] rfl λΕ ζ=>?_;(try simp);(repeat (rw[Υ];simp[]));(try simp[]);apply ζ;refine W.bI (.stop ?_);refine V.tg (γ _ _ _) rfl rfl rfl rfl Tryz.func179 rfl rfl λbM bR H1 μ jL=>?_;obtain rfl:bR=[]:=dw.1 jL.len;rintro y rfl;exact h bM H1 μ.ext jL
 ·obtain⟨o',t',I,U,ξ,Κ,aE⟩:=dr φ ο ν hv;refine⟨o',t',I,U,ξ,by rw[b9];exact Κ,λcu ey=>?_⟩;rw[g3];refine V.b8 (γ _ _ _) ?_;refine W.part (A:=[]) Φ [6] [] rfl λΕ ζ=>?_;(try simp);(repeat (rw[Υ];simp[]));(try simp[]);apply ζ;refine W.bI (.stop ?_);refine V.tg (γ _ _ _) rfl rfl rfl rfl Tryz.func179 rfl rfl λbM bR H1 μ jL=>?_;obtain rfl:bR=[]:=dw.1 jL.len;rintro y rfl;exact aE cu ey bM H1 μ.ext jL
end
theorem fI.gh {m nt:Nat} {S aA:aH} {B:aU} {H H':χ} {env:aa} {t:Array Value} (h:fI m nt S B H [] env t) (he:∀p∈env,∃v,p.2=η.z v) (ω:Holds aA [] [] H'):fI 0 nt aA [] H' [] env t:=⟨ω,A3 he h.cx,h.size,Nat.le_refl _⟩
theorem cw.Jr [bt] {P:Program} {Q:Value->Prop} {mn:Bool} {x:aX} {c b:Frame} {rest:List Frame} {H:χ} {t:Array Value} {k:List Item} {fn:Func} {f:FuncId} (γ:Seq (one x)) (hM:Seq (one {x with deaf:=x.deaf-1})) (hd:0<x.deaf) (hb:b.mode=.run) (cm:b.roundOf=none) (eP:b.defers=[Go.Conc.dcall f #[]]) (gR:b.kind=.normal) (bY:P.funcs[b.fn]?=some fn) (e5:fn.results=#[])
  (he:Entry P f (λ_=>do mark .enable;pure Extern.Race.none_)) (h:cw P Q mn {x with deaf:=x.deaf-1} (c.finish (.tuple #[])) rest H):cw P Q mn x (ax b t (.code .ret::k)) (c::rest) H:=by
 refine aO.ret (x:=one x) γ hb cm (λy Ο=>?_) x rfl;cases Ο;refine cw.Zo γ.here hd hb cm eP he ?_;refine aO.back (f:={ax {b with defers:=[]} t (.code .ret::k) with mode:=.returning}) (x:=one {x with deaf:=x.deaf-1}) hM rfl rfl (.inl gR) bY ?_ _ rfl;rw[results_none e5];refine π.pure' (λy Ο=>?_);cases Ο;exact h
section
variable {Q:Value->Prop} {mn:Bool} {x:aX} {c:Frame} {rest:List Frame} {S:aH} {B:aU} {σ:List Row} {H:χ} {s n p:Nat} {sp:Spec} {v:Option (Nat×aP)} {t:Tok}
theorem aκ (ε:me x s sp) (Η:n<sp.top) (ω:Holds S B σ H)
  (Ι:∀v,yt Q mn (bx x s (.par (n+1) (p+1) .add) v 0) c rest S H (.tuple #[])) :
  cw Tryz.prog Q mn (bx x s (.par n p .add) v 0) (Frame.enter Tryz.prog 140 #[ptr s 0,.int .i64 1] .normal) (c::rest) H:=by
 letI:bt:=eG;have γ:=ε.seq;refine V.qC (z:=one _) (vs:=[ptr s 0,.int .i64 1]) Tryz.func140 rfl ω (by simp[Tryz.ntmps140]) ?_ _ rfl;refine V.b8 (γ _ _ _) ?_;(repeat (first|apply a3|apply wb|apply a4|apply wd|refine al rfl ?_|refine aj rfl ?_|(refine bC λΕ ζ=>?_;simp;(repeat (rw[Υ];simp[]));apply ζ)));refine W.cq (.stop ?_);refine V.disable (γ _ _ _).here ⟨⟨rfl,rfl,by simp[Frame.enter],rfl⟩,AW,⟨_,rfl⟩,rfl,rfl,rfl⟩ ?_;rw[AS];refine V.b8 (γ _ _ _) ?_;refine W.bI ?_
 repeat first|apply a3|apply wb|apply a4|apply wd
 refine W.cq (.stop ?_);refine V.I9 (γ _ _ _) ⟨rfl,rfl,by simp[Frame.enter],rfl⟩ rfl rfl rfl ?_;refine V.b8 (γ _ _ _) ?_;refine W.bI ?_;(repeat (first|apply a3|apply wb|apply a4|apply wd|refine al rfl ?_|refine aj rfl ?_|(refine bC λΕ ζ=>?_;simp;(repeat (rw[Υ];simp[]));apply ζ)));refine W.cq (.stop ?_);refine V.EV (γ _ _ _) (vs:=[]) ⟨⟨rfl,rfl,by simp[Frame.enter],rfl⟩,Py,⟨_,rfl⟩,rfl,rfl,rfl⟩ ?_;refine V.b8 (γ _ _ _) ?_;refine W.bI ?_;(repeat (first|apply a3|apply wb|apply a4|apply wd|refine al rfl ?_|refine aj rfl ?_|(refine bC λΕ ζ=>?_;simp;(repeat (rw[Υ];simp[]));apply ζ)));refine W.cq ?_;refine W.part (A:=[]) Φ [0,1,2,3,4,5] [6,7] rfl λΕ ζ=>?_;(try simp);(repeat (rw[Υ];simp[PX,PY]));(try simp[PX,PY]);apply ζ;refine W.stop ?_;refine V.call (γ _ _ _) ⟨rfl,rfl,by simp[Frame.enter],rfl⟩ rfl rfl rfl ⟨_,Tryz.func166,rfl,rfl⟩ λbM bR H1 t1 po μ ψ hv=>?_;obtain rfl:=m0 (l:=[ptr s 0,.int .u64 4294967296]) hv;obtain rfl:bR=[]:=dw.1 ψ.holds.len;rintro y rfl;refine aθ ε id ψ.holds λφ ο ν=>?_;have ς:=ν.jo.tk;rw[b9] at ς;obtain⟨Τ,af,aZ,cA,gP⟩:=ς.add n p rfl;have gJ:=E9 ε ν.spec;have ri:n<ο.top:=by rw[show ο.top=sp.top by rw[<-ν.spec]];exact Η
 have small:∀a b c d:Nat,a=b+1->b<=c->c<d->d<7->a<8/\b<7/\0<a/\¬a=0:=λa b c d I U ξ Κ=>R;obtain⟨cc,ji⟩:=aF (ο.cnt+1);obtain⟨k1,cJ,qa,lς⟩:=small cc ο.cnt n ο.top ji gP ri gJ;have q8:cR {ο with cnt:=cc}=h2 cc 0:=by rw[uR];simp only[Τ]
 refine⟨{ο with cnt:=cc},.par (n+1) (p+1) .add,?_,rfl,⟨rfl,rfl,rfl⟩,by rw[ji];exact .add ri,λcu ey c0 bQ lq je=>?_⟩
 ·rw[q8,uR,Τ,aε ο.cnt cJ 0 bD,ji]
 have f1:=E6 cc k1 0 bD
 have f2:=E7 cc k1 0 bD
 have f3:=E8 cc k1 0 bD;rw[q8];generalize h2 cc 0=w at f1 f2 f3;rw[il rfl];refine V.here (x:=one _) (m:=0) (nt:=117) ?_ ((ψ.put (a:=.z (.int .u64 w)) rfl (.z _)).gh θ je) _ rfl;have fin:∀(v:Option (Nat×aP)) (env:aa) (K:List Item),V Tryz.prog Q mn (one (bx x s (.par (n+1) (p+1) .add) v 1)) {Frame.enter Tryz.prog 140 #[ptr s 0,.int .i64 1] .normal with defers:=[Go.Conc.dcall 161 #[]]} (c::rest) 117 ⟨c0,[],bQ,[],0⟩ (.code .ret::K) env []:=λv env K kN kO jm t3 hG e8=>by
  rintro y rfl;obtain rfl:kO=[]:=dw.1 e8.holds.len;exact cw.Jr (γ _ _ _) (γ _ _ 0) (Nat.succ_pos _) rfl rfl rfl rfl Tryz.func140 rfl uN (Ι v kN jm ((μ.ext.trans lq).trans hG.ext) e8.holds)
 refine V.b8 (γ _ _ _) ?_;refine W.part (A:=[]) Φ [7] [] rfl λΕ ζ=>?_;(try simp);(repeat (rw[Υ];simp[]));(try simp[]);apply ζ;refine W.bI ?_;by_cases I:cc=1
 ·(repeat (first|apply a3|apply wb|apply a4|apply wd|refine al rfl ?_|refine aj rfl ?_|(refine bC λΕ ζ=>?_;simp;(repeat (rw[Υ];simp[f1,f2,f3,Jp,I]));apply ζ)));refine W.cq ?_;refine ft [0,1,2] [3,4] ?_;refine W.stop ?_;refine V.conv (γ _ _ _).here (sp:=sp) ε.spec (by rw[b9];exact id) ⟨rfl,rfl,by simp[Frame.enter],rfl⟩ rfl rfl rfl PE uO PF rfl (λο w Α bE=>⟨_,bE.Τ⟩) (λφ ο ν=>?_);unfold h7;rw[kv];refine V.Zg ε.rel b9 θ ⟨⟨rfl,rfl,by simp[Frame.enter],rfl⟩,ZK,⟨_,rfl⟩,rfl,rfl,rfl⟩ ?_;refine V.b8 (γ _ _ _) ?_;refine W.bI ?_;(repeat (first|apply a3|apply wb|apply a4|apply wd|refine al rfl ?_|refine aj rfl ?_|(refine bC λΕ ζ=>?_;simp;(repeat (rw[Υ];simp[f1,f2,f3,Jp,I]));apply ζ)));exact .stop (fin _ _ _)
 ·have xA:¬(cc:Int)=1:=λh=>I (by exact_mod_cast h);(repeat (first|apply a3|apply wb|apply a4|apply wd|refine al rfl ?_|refine aj rfl ?_|(refine bC λΕ ζ=>?_;simp;(repeat (rw[Υ];simp[f1,f2,f3,Jp,I,xA,qa]));apply ζ)));exact .stop (fin _ _ _)
end
end Go.TL
