import Derived.Test.YtlabjopijpkiaaaGreatUAV
set_option maxHeartbeats 16000000
set_option maxRecDepth 20000
set_option linter.unusedSectionVars false
set_option linter.unusedSimpArgs false
set_option linter.unusedVariables false
namespace Go.TL
open Go.Conc Go.Proofs
open Go.ConcN (sumTo upd sumTo_upd upd_ne upd_same sumTo_congr le_sumTo)
noncomputable def A8:Code:=Tryz.f146.body.getD .skip
noncomputable def nL:Code:=dH [1,0,0] A8
noncomputable def wI:List Item:=[.inLoop nL,.inBlock 0]
theorem PZ:e4 .u64 0 2147483648=0:=bD
theorem P0:e4 .u64 0 2147483647=0:=bD
theorem Fa:IntKind.u32.wrap 0=0:=bD
theorem P1:IntKind.i32.wrap 0=0:=bD
section
variable {Q:Value->Prop} {mn:Bool} {x:aX} {c:Frame} {rest:List Frame} {S:aH} {B:aU} {σ:List Row} {H:χ} {s n p:Nat} {sp:Spec} {v:Option (Nat×aP)} {t:Tok}
abbrev uS (Q:Value->Prop) (mn:Bool) (x:aX) (c:Frame) (rest:List Frame) (S:aH) (H:χ) (s:Nat) (t:Tok) (v:Option (Nat×aP)) (d:Nat) (K:List Item) (env:aa):Prop:=
 V Tryz.prog Q mn (one (bx x s t v d)) (Frame.enter Tryz.prog 146 #[ptr s 0] .normal) (c::rest) 84 ⟨S,[],H,[],0⟩ K env []
def rY (Q:Value->Prop) (mn:Bool) (x:aX) (c:Frame) (rest:List Frame) (S:aH) (H:χ) (s n:Nat) (sp:Spec):Prop:=
 ∀(aA:aH) (H':χ) (gp fG:List Nat) (gM eI:χ),Ext S [] H aA [] H'->Holds aA [] [] H'->gp.Perm (List.range n)->lO sp.D gp gM->(sp.aW≠none->fG.Perm (List.range n)/\sp.aN fG eI)->(sp.aW=none->eI=χ.empty)->Apart H' gM->Apart H' eI->Apart gM eI->(∃w,Fits H' w/\Fits gM w/\Fits eI w)->
  ∀(v:Option (Nat×aP)) (c0:aH) (bQ:χ),Ext fg [] (join (join H' gM) eI) c0 [] bQ->cw Tryz.prog Q mn (bx x s (.par n 0 .bB) v 0) (c.finish (.tuple #[])) rest bQ
theorem rY.later {c0:aH} {bQ:χ} (h:rY Q mn x c rest S H s n sp) (he:Ext S [] H c0 [] bQ):rY Q mn x c rest c0 bQ s n sp:=
 λaA H' gp fG gM eI a1 bk cz gm hO mw vk tD zg Gw v kN jm zh=>h aA H' gp fG gM eI (he.trans a1) bk cz gm hO mw vk tD zg Gw v kN jm zh
theorem P2 (ε:me x s sp) (Ι:∀(v:Option (Nat×aP)) (c0:aH) (bQ:χ),Ext fg [] H c0 [] bQ->cw Tryz.prog Q mn (bx x s (.par n 0 .bB) v 0) (c.finish (.tuple #[])) rest bQ) {K:List Item} {env:aa}:uS Q mn x c rest fg H s (.par n 0 .bB) v 0 (.code .ret::K) env:=by
 letI:bt:=eG;have γ:=ε.seq;refine V.I8 (γ _ _ _) rfl rfl rfl rfl Tryz.func146 rfl λbM bR H1 μ ω=>?_;obtain rfl:bR=[]:=dw.1 ω.len;rintro y rfl;exact Ι v bM H1 μ.ext
theorem P3 (ε:me x s sp) (c5:rY Q mn x c rest S H s n sp):uS Q mn x c rest S H s (.par n 0 .mm) v 1 (.code (dH [0,1] nL)::.inBlock 1::wI) [(0,.z (ptr s 0)),(2,.z (.int .u64 0))]:=by
 letI:bt:=eG;have γ:=ε.seq;refine V.b8 (γ _ _ _) ?_;unfold nL A8;(repeat (first|apply a3|apply wb|apply a4|apply wd|refine al rfl ?_|refine aj rfl ?_|(refine bC λΕ ζ=>?_;simp;(repeat (rw[Υ];simp[PZ,P0,Fa,P1]));apply ζ)));refine W.cq (.stop ?_);refine V.enable (γ _ _ _).here (Nat.succ_pos _) ⟨⟨rfl,rfl,by simp[Frame.enter],rfl⟩,uN,⟨_,rfl⟩,rfl,rfl,rfl⟩ ?_;rw[AT];refine V.b8 (γ _ _ _) ?_;refine W.bI ?_;refine W.cq ?_;refine ft [0] [1,2] ?_;refine W.stop ?_;refine V.conv (γ _ _ _).here (sp:=sp) ε.spec (by rw[b9];exact id) ⟨rfl,rfl,by simp[Frame.enter],rfl⟩ rfl rfl rfl Jh uO Ji rfl (λο w Α bE=>⟨_,bE.cV⟩) (λφ ο ν=>?_);unfold h7;rw[kv];refine V.CJ ε.rel rfl (sp:=sp) ε.spec b9 (.inl rfl) ⟨⟨rfl,rfl,by simp[Frame.enter],rfl⟩,EY,⟨_,rfl⟩,rfl,rfl,rfl⟩ λbM bR H1 t1 gp fG gM eI μ ψ bJ c8 fY mD uA Js Jt Ju=>?_;rw[g3];obtain rfl:bR=[]:=dw.1 ψ.holds.len;have Ι:=c5 bM H1 gp fG gM eI μ.ext ψ.holds bJ c8 fY mD uA Js Jt Ju;refine V.here (x:=one _) (S:=fg) (B:=[]) (σ:=[]) (m:=0) (nt:=84) ?_ (ψ.none θ) _ rfl;refine V.b8 (γ _ _ _) ?_;refine W.bI ?_;(repeat (first|apply a3|apply wb|apply a4|apply wd|refine al rfl ?_|refine aj rfl ?_|(refine bC λΕ ζ=>?_;simp;(repeat (rw[Υ];simp[PZ,P0,Fa,P1]));apply ζ)));exact .stop (P2 ε Ι)
theorem aμ (ε:me x s sp) (c5:rY Q mn x c rest S H s n sp):uS Q mn x c rest S H s (.par n 0 .w4) v 1 (.code (dH [0,1,1,1,1,1,0,1,1,1,1] nL)::.inBlock 1::wI) [(0,.z (ptr s 0))]:=by
 letI:bt:=eG;have γ:=ε.seq;refine V.b8 (γ _ _ _) ?_;unfold nL A8
 repeat first|apply a3|apply wb|apply a4|apply wd
 refine W.cq ?_;refine ft [0,1,2] [3,4,5] ?_;refine W.stop ?_;refine V.call (γ _ _ _) ⟨rfl,rfl,by simp[Frame.enter],rfl⟩ rfl rfl rfl ⟨_,Tryz.func168,rfl,rfl⟩ λbM bR H1 t1 po μ ψ hv=>?_;obtain rfl:=m0 (l:=[ptr s 0]) hv;obtain rfl:bR=[]:=dw.1 ψ.holds.len;rintro y rfl;refine Jq ε id ψ.holds λφ ο ν=>.inl λc0 bQ lq je=>?_;have ς:=ν.jo.tk;rw[b9] at ς;obtain⟨Τ,af,aZ⟩:=ς.fin n 0 (.inr (.inl rfl));have Ρ:cR ο=0:=by simp only[cR,Τ,aZ];rfl
 rw[Ρ,il rfl];have yu:=c5.later (μ.ext.trans lq);refine V.here (x:=one _) (m:=0) (nt:=84) ?_ ((ψ.put (a:=.z (.int .u64 0)) rfl (.z _)).gh θ je) _ rfl;refine V.b8 (γ _ _ _) ?_;refine W.part (A:=[]) Φ [4,5] [] rfl λΕ ζ=>?_;(try simp);(repeat (rw[Υ];simp[]));(try simp[]);apply ζ;refine W.bI ?_;(repeat (first|apply a3|apply wb|apply a4|apply wd|refine al rfl ?_|refine aj rfl ?_|(refine bC λΕ ζ=>?_;simp;(repeat (rw[Υ];simp[]));apply ζ)));refine W.cq (.stop ?_);refine V.enable (γ _ _ _).here (Nat.succ_pos _) ⟨⟨rfl,rfl,by simp[Frame.enter],rfl⟩,uN,⟨_,rfl⟩,rfl,rfl,rfl⟩ ?_;rw[AT];refine V.b8 (γ _ _ _) ?_;refine W.bI ?_;refine W.cq ?_;refine ft [0] [1,2] ?_;refine W.stop ?_;refine V.conv (γ _ _ _).here (sp:=sp) ε.spec (by rw[b9];exact id) ⟨rfl,rfl,by simp[Frame.enter],rfl⟩ rfl rfl rfl Jh uO Ji rfl (λο w Α bE=>⟨_,bE.cV⟩) (λφ ο ν=>?_);unfold h7;rw[kv];refine V.CJ ε.rel rfl (sp:=sp) ε.spec b9 (.inr rfl) ⟨⟨rfl,rfl,by simp[Frame.enter],rfl⟩,EY,⟨_,rfl⟩,rfl,rfl,rfl⟩ λbM bR H1 t1 gp fG gM eI μ ψ bJ c8 fY mD uA Js Jt Ju=>?_;rw[g3];obtain rfl:bR=[]:=dw.1 ψ.holds.len;have Ι:=yu bM H1 gp fG gM eI μ.ext ψ.holds bJ c8 fY mD uA Js Jt Ju;refine V.here (x:=one _) (S:=fg) (B:=[]) (σ:=[]) (m:=0) (nt:=84) ?_ (ψ.none θ) _ rfl;refine V.b8 (γ _ _ _) ?_;refine W.bI ?_;(repeat (first|apply a3|apply wb|apply a4|apply wd|refine al rfl ?_|refine aj rfl ?_|(refine bC λΕ ζ=>?_;simp;(repeat (rw[Υ];simp[]));apply ζ)));exact .stop (P2 ε Ι)
theorem aν {a b d:Nat} (h:a<=b) (I:b<7):a<8/\a<7:=R
theorem aξ {a b:Nat} (h:a<b):¬b=0:=R
theorem aο (ε:me x s sp) (c5:rY Q mn x c rest S H s n sp) {φ:Nat} {ο:aP}:uS Q mn x c rest S H s (.par n 0 .w3) (some (φ,ο)) 1 (.code (dH [0,1,1,1,1,1,0,1,1,1,0] nL)::.code (dH [0,1,1,1,1,1,0,1,1,1,1] nL)::.inBlock 1::wI) [(0,.z (ptr s 0)),(5,.z (.bool false))]:=by
 letI:bt:=eG;have γ:=ε.seq;have woken:∀v,uS Q mn x c rest S H s (.par n 0 .w4) v 1 (.code (dH [0,1,1,1,1,1,0,1,1,1,1] nL)::.inBlock 1::wI) [(0,.z (ptr s 0))]:=λv=>aμ ε c5;refine V.b8 (γ _ _ _) ?_;unfold nL A8;refine W.cq ?_;refine ft [0,1,2,3] [4] ?_;refine W.stop ?_;refine V.Zk (γ _ _ _).here (sp:=sp) ε.spec (by rw[b9];exact id) (vs:=[ptr s 1,.bool false]) rfl (λbp iY=>by rw[AU iY];exact ε.still bp iY) ⟨⟨rfl,rfl,by simp[Frame.enter],rfl⟩,ZR,⟨_,rfl⟩,rfl,rfl,rfl⟩ (λg5 ο ν h=>by rw[b9];exact h) (λg5 ο ν h=>?_);refine⟨{ο with cL:=ο.cL-1},.par n 0 .w4,rfl,rfl,⟨rfl,rfl,rfl⟩,by rw[b9];exact .wake h,λhU ey=>?_⟩;rw[g3];refine V.b8 (γ _ _ _) ?_;refine W.bI ?_;refine W.forget [(0,.z (ptr s 0))] θ (.stop ?_);exact woken _
theorem aπ (ε:me x s sp):∀(N φ:Nat) (ο:aP) (S:aH) (H:χ),φ<N->ο.toSpec=sp->0<ο.cnt->ο.cnt<=ο.top->ο.wt=0->rY Q mn x c rest S H s n sp->
  uS Q mn x c rest S H s (.par n 0 .add) (some (φ,ο)) 1 (.code (dH [0,1] nL)::.inBlock 1::wI) [(0,.z (ptr s 0)),(2,.z (.int .u64 (cR ο)))]:=by
 letI:bt:=eG;have γ:=ε.seq;intro N
 induction N with
 | zero=>intro φ ο S H h;exact absurd h (Nat.not_lt_zero _)
 | succ N A1=>
  intro φ ο S H cl Α CC P4 q6 c5;have gJ:=E9 ε Α;obtain⟨k1,cJ⟩:=aν (d:=0) P4 gJ;have f1:=E6 ο.cnt k1 0 bD;have f2:=E7 ο.cnt k1 0 bD;have f3:=E8 ο.cnt k1 0 bD;have f4:=aη ο.cnt k1;have zt:cR ο=h2 ο.cnt 0:=by rw[uR,q6]
  have bA:¬ο.cnt=0:=aξ CC
  have EF:¬(ο.cnt:Int)=0:=λh=>bA (by exact_mod_cast h);rw[<-zt] at f1 f2 f3 f4;have sleep:∀(S H) (φ:Nat) (ο:aP),rY Q mn x c rest S H s n sp->uS Q mn x c rest S H s (.par n 0 .w3) (some (φ,ο)) 1 (.code (dH [0,1,1,1,1,1,0,1,1,1,0] nL)::.code (dH [0,1,1,1,1,1,0,1,1,1,1] nL)::.inBlock 1::wI) [(0,.z (ptr s 0)),(5,.z (.bool false))]:=λS H φ ο c5=>aο ε c5;have mm:∀(S H v),rY Q mn x c rest S H s n sp->uS Q mn x c rest S H s (.par n 0 .mm) v 1 (.code (dH [0,1] nL)::.inBlock 1::wI) [(0,.z (ptr s 0)),(2,.z (.int .u64 0))]:=λS H v c5=>P3 ε c5;refine V.b8 (γ _ _ _) ?_;unfold nL A8;(repeat (first|apply a3|apply wb|apply a4|apply wd|refine al rfl ?_|refine aj rfl ?_|(refine bC λΕ ζ=>?_;simp;(repeat (rw[Υ];simp[f2,f3,bA,EF]));apply ζ)));refine W.cq ?_;refine W.part (A:=[]) Φ [0,1,2,3,4,5] [6] rfl λΕ ζ=>?_;(try simp);(repeat (rw[Υ];simp[f4]));(try simp[f4]);apply ζ;refine W.stop ?_;refine V.call (γ _ _ _) ⟨rfl,rfl,by simp[Frame.enter],rfl⟩ rfl rfl rfl ⟨_,Tryz.func179,rfl,rfl⟩ λbM bR H1 t1 po μ ψ hv=>?_;obtain rfl:=m0 (l:=[ptr s 0,.int .u64 (cR ο),.int .u64 (h2 ο.cnt 1)]) hv;obtain rfl:bR=[]:=dw.1 ψ.holds.len;rintro y rfl;refine aι ε id ψ.holds (λg5 fW ν hv c0 bQ lq je=>?_) (λg5 fW ν hv=>?_)
  ·have qe:=ν.view φ ο pB
   have aE:g5<N:=by
    rcases Nat.lt_or_ge g5 φ with h|h
    ·exact Nat.lt_of_lt_of_le h (Nat.le_of_lt_succ cl)
    ·exact absurd (by rw[qe.2 (Nat.le_antisymm qe.1 h)]) hv
   have yu:=c5.later (μ.ext.trans lq);rw[il rfl];refine V.here (x:=one _) (m:=0) (nt:=84) ?_ ((ψ.put (a:=.z (.bool false)) rfl (.z _)).gh θ je) _ rfl;refine V.b8 (γ _ _ _) ?_;refine W.bI ?_;refine aj rfl ?_
   repeat first|apply a3|apply wb|apply a4|apply wd
   refine W.inLoop ?_;refine W.forget [(0,.z (ptr s 0))] θ ?_
   repeat first|apply a3|apply wb|apply a4|apply wd
   refine W.cq ?_;refine ft [0,1,2] [3,4] ?_;refine W.stop ?_;refine V.call (γ _ _ _) ⟨rfl,rfl,by simp[Frame.enter],rfl⟩ rfl rfl rfl ⟨_,Tryz.func168,rfl,rfl⟩ λkN kO jm t3 Jv hG e8 s3=>?_;obtain rfl:=m0 (l:=[ptr s 0]) s3;obtain rfl:kO=[]:=dw.1 e8.holds.len;rintro y rfl;refine Jq ε id e8.holds λhU fO dX=>?_;have ej:=dX.jo.tk;rw[b9] at ej;obtain⟨e3,eK,iO,sK,uf⟩:=ej.add n 0 rfl;have x':=dX.view g5 fW pB;by_cases ai:fO.cnt=0
   ·refine .inr ⟨.par n 0 .mm,.thru ai,λyq aρ jT jU oA kY=>?_⟩;have Ρ:cR fO=0:=by simp only[cR,e3,ai];rfl
    rw[Ρ,il rfl];have wJ:=yu.later (hG.ext.trans oA);refine V.here (x:=one _) (m:=0) (nt:=84) ?_ ((e8.put (a:=.z (.int .u64 0)) rfl (.z _)).gh θ kY) _ rfl;refine V.b8 (γ _ _ _) ?_;refine W.part (A:=[]) Φ [4] [] rfl λΕ ζ=>?_;(try simp);(repeat (rw[Υ];simp[]));(try simp[]);apply ζ;refine W.bI ?_;refine W.forget [(0,.z (ptr s 0)),(2,.z (.int .u64 0))] θ (.stop ?_);exact mm _ _ _ wJ
   ·refine .inl λjT jU oA kY=>?_;rw[il rfl];have wJ:=yu.later (hG.ext.trans oA);refine V.here (x:=one _) (m:=0) (nt:=84) ?_ ((e8.put (a:=.z (.int .u64 (cR fO))) rfl (.z _)).gh θ kY) _ rfl;refine V.b8 (γ _ _ _) ?_;refine W.part (A:=[]) Φ [4] [] rfl λΕ ζ=>?_;(try simp);(repeat (rw[Υ];simp[]));(try simp[]);apply ζ;refine W.bI ?_;refine W.forget [(0,.z (ptr s 0)),(2,.z (.int .u64 (cR fO)))] θ (.stop ?_);exact A1 hU fO jT jU (Nat.lt_of_le_of_lt x'.1 aE) dX.spec (Nat.pos_of_ne_zero ai) ej.cnt e3 wJ
  ·have ij:=ν.jo.tk;rw[b9] at ij;obtain⟨e3,eK,iO,sK,uf⟩:=ij.add n 0 rfl;have oY:fW.cnt=ο.cnt:=by rw[zt,uR,e3] at hv;simp only[h2] at hv;omega
   refine⟨{fW with wt:=1},.par n 0 .w3,?_,rfl,⟨rfl,rfl,rfl⟩,.LQ (by rw[oY];exact CC),λhU lτ c0 bQ lq je=>?_⟩
   ·rw[uR];simp only[oY]
   rw[il rfl];have yu:=c5.later (μ.ext.trans lq);refine V.here (x:=one _) (m:=0) (nt:=84) ?_ ((ψ.put (a:=.z (.bool true)) rfl (.z _)).gh θ je) _ rfl;refine V.b8 (γ _ _ _) ?_;refine W.bI ?_;refine al rfl ?_;(repeat (first|apply a3|apply wb|apply a4|apply wd|refine al rfl ?_|refine aj rfl ?_|(refine bC λΕ ζ=>?_;simp;(repeat (rw[Υ];simp[]));apply ζ)));refine W.cq ?_;refine ft [0,1,2] [3,4] ?_;refine W.stop ?_;refine V.conv (γ _ _ _).here (sp:=sp) ε.spec (by rw[b9];exact id) ⟨rfl,rfl,by simp[Frame.enter],rfl⟩ rfl rfl rfl PE uO PF rfl (λο w Α bE=>⟨_,bE.Τ⟩) (λφ ο ν=>?_);unfold h7;rw[kv];refine V.Zh ε.rel b9 θ ⟨⟨rfl,rfl,by simp[Frame.enter],rfl⟩,ZL,⟨_,rfl⟩,rfl,rfl,rfl⟩ ?_;refine V.b8 (γ _ _ _) ?_;refine W.bI ?_;(repeat (first|apply a3|apply wb|apply a4|apply wd|refine al rfl ?_|refine aj rfl ?_|(refine bC λΕ ζ=>?_;simp;(repeat (rw[Υ];simp[f1]));apply ζ)));refine W.forget [(0,.z (ptr s 0)),(5,.z (.bool false))] θ (.stop ?_);exact sleep _ _ _ _ yu
theorem aς (ε:me x s sp) (ω:Holds S B σ H) (c5:rY Q mn x c rest S H s n sp) :
  cw Tryz.prog Q mn (bx x s (.par n 0 .add) v 0) (Frame.enter Tryz.prog 146 #[ptr s 0] .normal) (c::rest) H:=by
 letI:bt:=eG;have γ:=ε.seq;refine V.qC (z:=one _) (vs:=[ptr s 0]) Tryz.func146 rfl ω (by simp[Tryz.ntmps146]) ?_ _ rfl;refine V.b8 (γ _ _ _) ?_;(repeat (first|apply a3|apply wb|apply a4|apply wd|refine al rfl ?_|refine aj rfl ?_|(refine bC λΕ ζ=>?_;simp;(repeat (rw[Υ];simp[]));apply ζ)));refine W.cq (.stop ?_);refine V.disable (γ _ _ _).here ⟨⟨rfl,rfl,by simp[Frame.enter],rfl⟩,AW,⟨_,rfl⟩,rfl,rfl,rfl⟩ ?_;rw[AS];refine V.b8 (γ _ _ _) ?_;refine W.bI ?_
 repeat first|apply a3|apply wb|apply a4|apply wd
 refine W.loop ?_
 repeat first|apply a3|apply wb|apply a4|apply wd
 refine W.cq ?_;refine ft [0,1,2] [3,4] ?_;refine W.stop ?_;refine V.call (γ _ _ _) ⟨rfl,rfl,by simp[Frame.enter],rfl⟩ rfl rfl rfl ⟨_,Tryz.func168,rfl,rfl⟩ λkN kO jm t3 Jv hG e8 s3=>?_;obtain rfl:=m0 (l:=[ptr s 0]) s3;obtain rfl:kO=[]:=dw.1 e8.holds.len;rintro y rfl;refine Jq ε id e8.holds λhU fO dX=>?_;have ej:=dX.jo.tk;rw[b9] at ej;obtain⟨e3,eK,iO,sK,uf⟩:=ej.add n 0 rfl;by_cases ai:fO.cnt=0
 ·refine .inr ⟨.par n 0 .mm,.thru ai,λyq aρ jT jU oA kY=>?_⟩;have Ρ:cR fO=0:=by simp only[cR,e3,ai];rfl
  rw[Ρ,il rfl];have wJ:=c5.later (hG.ext.trans oA);refine V.here (x:=one _) (m:=0) (nt:=84) ?_ ((e8.put (a:=.z (.int .u64 0)) rfl (.z _)).gh θ kY) _ rfl;refine V.b8 (γ _ _ _) ?_;refine W.part (A:=[]) Φ [4] [] rfl λΕ ζ=>?_;(try simp);(repeat (rw[Υ];simp[]));(try simp[]);apply ζ;refine W.bI ?_;refine W.forget [(0,.z (ptr s 0)),(2,.z (.int .u64 0))] θ (.stop ?_);exact P3 ε wJ
 ·refine .inl λjT jU oA kY=>?_;rw[il rfl];have wJ:=c5.later (hG.ext.trans oA);refine V.here (x:=one _) (m:=0) (nt:=84) ?_ ((e8.put (a:=.z (.int .u64 (cR fO))) rfl (.z _)).gh θ kY) _ rfl;refine V.b8 (γ _ _ _) ?_;refine W.part (A:=[]) Φ [4] [] rfl λΕ ζ=>?_;(try simp);(repeat (rw[Υ];simp[]));(try simp[]);apply ζ;refine W.bI ?_;refine W.forget [(0,.z (ptr s 0)),(2,.z (.int .u64 (cR fO)))] θ (.stop ?_);exact aπ ε (hU+1) hU fO jT jU (Nat.lt_succ_self _) dX.spec (Nat.pos_of_ne_zero ai) ej.cnt e3 wJ
end
end Go.TL
namespace Go.TL
open Go.Conc Go.Proofs
open Go.ConcN (sumTo upd sumTo_upd upd_ne upd_same sumTo_congr le_sumTo)
variable [bt]
def cF.yv:cF->η->Prop
 | .ok a,b=>a=b
 | .ca p r,b=>p/\r.yv b
 | .bad,_=>False
def iX (P:Program) {α:Type} (s:Sem α) (a:α):Prop:=∀w,s.run P w=.ok a w/\∀es,s.events P w es=es
section
variable {P:Program} {T:bf} {α β:Type}
theorem iX.pure (a:α):iX P (Pure.pure a) a:=λw=>⟨θ,λes=>θ⟩
theorem iX.bind {s:Sem α} {f:α->Sem β} {a:α} {b:β} (h:iX P s a) (k:iX P (f a) b):iX P (s >>= f) b:=λw=>⟨by simp[(h w).1,(k w).1,Result.andThen],λes=>by simp[(h w).1,(h w).2,(k w).2,Result.evThen]⟩
theorem iX.program:iX P Go.program P:=λw=>⟨θ,λes=>θ⟩
theorem iX.underlying {t:TypeId} {d:TypeDesc} (h:P.underlying t=some d):iX P (Go.underlying t) d:=λw=>⟨run_underlying h w,λes=>θ⟩
theorem iX.sizeOf {t:TypeId} {i:TypeInfo} (hi:P.info? t=some i):iX P (Go.sizeOf t) i.size:=by
 unfold Go.sizeOf Go.typeInfo;refine iX.bind (iX.bind .program ?_) (iX.pure _);show iX P (match P.info? t with|some i=>Pure.pure i|none=>_) i;rw[hi];exact .pure _
theorem aτ {op:BinOp} {ty:TypeId} {p q:Operand} {x y v:Value} (h:(sG op x y).yv (.z v)):iX P (do eqGuard op ty p q x y;binOp op ty x y) v:=by
 unfold sG at h;split at h
 case h_25=>exact h.elim
 case h_1=>
  obtain⟨I,U⟩:=h;cases U;have cU:¬(_:Int)<0:=Int.not_lt.2 I;simp only[eqGuard,binOp,Op.shift,cU,if_false];exact .pure _
 case h_2=>
  obtain⟨I,U⟩:=h;cases U;have cU:¬(_:Int)<0:=Int.not_lt.2 I;simp only[eqGuard,binOp,Op.shift,cU,if_false];exact .pure _
 case h_6=>
  split at h
  ·rename_i e;subst e;obtain⟨I,U⟩:=h;cases U;simp only[eqGuard,binOp,Op.intDiv,I,if_false,ne_eq,not_true_eq_false];exact .pure _
  ·exact h.elim
 case h_7=>
  split at h
  ·rename_i e;subst e;obtain⟨I,U⟩:=h;cases U;simp only[eqGuard,binOp,Op.intDiv,I,if_false,ne_eq,not_true_eq_false];exact .pure _
  ·exact h.elim
 case h_18=>
  obtain⟨I,U⟩:=h;cases U;have cU:¬((_:Int) > IntKind.i64.max):=Int.not_lt.2 I;simp only[eqGuard,binOp,Op.stringOp,cU,if_false];exact .pure _
 all_goals first
  |(cases h;exact .pure _)
  |(split at h
    ·rename_i e;subst e;cases h;simp only[eqGuard,binOp,Op.intArith,Op.intBits,Op.intCmp,ne_eq,not_true_eq_false,if_false];exact .pure _
    ·exact h.elim)
def yw (T:bf) (env:aa) (o:Oper):cF:=match o.op with
 | .move x=>.ok (aT env x)
 | .assign x=>.ok (aT env x)
 | .pick c a b=>xX (aT env c) (aT env a) (aT env b)
 | .binOp op _ x y _=>match aT env x,aT env y with
  | .z a,.z b=>sG op a b
  | _,_=>.bad
 | .unOp op _ x=>xH op (aT env x)
 | .convert s d x=>xP T s d (aT env x)
 | .nilCheck x=>match aT env x with
  | .z (.pointer (some a))=>.ok (.z (.pointer (some a)))
  | _=>.bad
 | .fieldAddr ty x f=>match aT env x with
  | .z (.pointer (some ⟨b,o',none⟩))=>match fT T ty f with|some (o,_)=>.ok (.z (.pointer (some ⟨b,o'+o,none⟩)))|none=>.bad
  | _=>.bad
 | _=>.bad
theorem aυ (Ι:bV P T) {env:aa} {o:Oper} {v:Value} (h:(yw T env o).yv (.z v)) {ρ:Operand->Value} (nM:∀y u,aT env y=.z u->ρ y=u):iX P (execOp ρ o) (.value v):=by
 have val:∀{s:Sem Value} {u:Value},iX P s u->iX P (do Pure.pure (Next.value (<-s))) (.value u):=λν=>.bind ν (.pure _);unfold yw at h;unfold execOp;split at h<;>rename_i Α<;>first|(rw[Α];simp only)|exact h.elim
 ·rw[nM _ _ h];exact .pure _
 ·rw[nM _ _ h];exact .pure _
 ·rename_i c a b;unfold xX at h;split at h
  ·rename_i bv ε;rw[nM _ _ ε];refine iX.bind (a:=bv) (iX.pure _) ?_;split at h
   ·rename_i y z Ο Θ;cases h;rw[nM _ _ Ο,nM _ _ Θ];cases bv<;>exact .pure _
   ·cases bv with
    | true=>rw[nM a v h];exact .pure _
    | false=>rw[nM b v h];exact .pure _
  ·exact h.elim
 ·split at h
  ·rename_i x y γ Ο;rw[nM _ _ γ,nM _ _ Ο];exact val (aτ h)
  ·exact h.elim
 ·unfold xH at h;split at h
  ·rename_i bv hb;rw[nM _ _ hb];split at h
   ·cases h;exact val (.pure _)
   ·exact h.elim
  ·rename_i k n hb;rw[nM _ _ hb];split at h
   ·cases h;exact val (.pure _)
   ·exact h.elim
  ·exact h.elim
 ·unfold xP at h;split at h
  ·rename_i i j hi δ;split at h
   ·rename_i k kk n hu γ;cases h;rw[nM _ _ γ];refine val ?_;unfold convert;refine .bind (.underlying (Ι _ _ hi).1.1) (.bind (.underlying (Ι _ _ δ).1.1) ?_);rw[hu];exact .pure _
   ·exact h.elim
  ·exact h.elim
 ·split at h
  ·rename_i a γ;cases h;rw[nM _ _ γ];exact .pure _
  ·exact h.elim
 ·split at h
  ·rename_i b o' γ;rw[nM _ _ γ];split at h
   ·rename_i dz zT Χ;cases h;refine val ?_;unfold fT at Χ;split at Χ<;>try cases Χ
    rename_i i hi;split at Χ<;>try cases Χ
    rename_i dc hu;split at Χ<;>try cases Χ
    rename_i x γ;split at Χ<;>try cases Χ
    rename_i b6 o6;split at Χ<;>try cases Χ
    rename_i ht;unfold Instr.fieldAt;refine .bind (.underlying (Ι _ _ hi).1.1) ?_;rw[hu];simp only[γ];refine .bind (a:=⟨b,o',none⟩) (.pure _) ?_;obtain⟨f,ln,qc,_⟩:=(Ι _ _ o6).2;refine .bind (a:=⟨b,o'+x.offset,none⟩) ?_ (.pure _);unfold fieldPlace;refine .bind (.sizeOf ln) ?_;rw[qc,if_neg ht,tY];exact .pure _
   ·exact h.elim
  ·exact h.elim
end
theorem aφ (vs:List Value) {nt:Nat} (Η:vs.length<=nt):dj fg [] [] (entry 0 (vs.map η.z)) (vs.toArray++Array.replicate (nt-vs.length) undef):=by
 have κ:fJ fg [] [] (vs.map η.z) vs.toArray:=⟨θ,λi a v I U=>by
  simp only[List.getElem?_map,List.getElem?_toArray] at I U;rw[U] at I;cases I;exact .z v⟩
 have:=(fI.enter (ys χ.empty) (m:=0) (nt:=nt) κ (Nat.le_refl _) (by simpa using Η)).cx;simpa using this
def Jw (P:Program) (mn:Bool) (du:Goroutine->Prop):Prop:=∀g g',iE g->(∀w,stepG P mn g w=.go g' w #[])->du g'->du g
def ad (du:Goroutine->Prop) (b:Frame) (cs:List Frame) (nt:Nat) (k:List Item) (env:aa):Prop:=∀t:Array Value,t.size=nt->dj fg [] [] env t->du (Go.Conc.G (ax b t k) cs)
def m4 (T:bf) (nt:Nat) (ops:Array Oper):List Nat->aa->(aa->Prop)->Prop
 | [],env,K=>K env
 | i::is,env,K=>gY ops[i]? λo=>h3 nt o=true/\gY (fK env ops o) λw=>
   jR w (m4 T nt ops is (cj o env .cp) K) (∃v,(yw T env o).yv (.z v)/\m4 T nt ops is (cj o env (.z v)) K)
theorem wK {T:bf} {nt:Nat} {ops:Array Oper} {env:aa} {K:aa->Prop}:m4 T nt ops [] env K=K env:=Eq.trans rfl rfl
def wL (T:bf) (nt:Nat) (ops:Array Oper) (is:List Nat) (o:Oper) (env:aa) (K:aa->Prop):cF->Prop
 | .ok (.z v)=>m4 T nt ops is (cj o env (.z v)) K
 | .ca p (.ok (.z v))=>p/\m4 T nt ops is (cj o env (.z v)) K
 | _=>False
theorem aχ {T:bf} {nt:Nat} {ops:Array Oper} {is:List Nat} {o:Oper} {env:aa} {K:aa->Prop} {v:Value}:wL T nt ops is o env K (.ok (.z v))=m4 T nt ops is (cj o env (.z v)) K:=Eq.trans rfl rfl
theorem aψ {T:bf} {nt:Nat} {ops:Array Oper} {is:List Nat} {o:Oper} {env:aa} {K:aa->Prop} {v:Value} {p:Prop}:wL T nt ops is o env K (.ca p (.ok (.z v)))=(p/\m4 T nt ops is (cj o env (.z v)) K):=Eq.trans rfl rfl
theorem aω {T:bf} {nt:Nat} {ops:Array Oper} {is:List Nat} {o:Oper} {env:aa} {K:aa->Prop} {r r':cF} (h:r=r'):wL T nt ops is o env K r=wL T nt ops is o env K r':=by rw[h]
theorem aΑ {T:bf} {nt:Nat} {ops:Array Oper} {is:List Nat} {o:Oper} {env:aa} {K:aa->Prop} {r:cF} (h:wL T nt ops is o env K r):∃v,r.yv (.z v)/\m4 T nt ops is (cj o env (.z v)) K:=by
 unfold wL at h;split at h
 ·exact⟨_,rfl,h⟩
 ·exact⟨_,⟨h.1,rfl⟩,h.2⟩
 ·exact h.elim
theorem g6 {T:bf} {nt:Nat} {ops:Array Oper} {i:Nat} {is:List Nat} {env:aa} {K:aa->Prop} (h:gY ops[i]? λo=>h3 nt o=true/\gY (fK env ops o) λw=>jR w (m4 T nt ops is (cj o env .cp) K) (wL T nt ops is o env K (yw T env o))):m4 T nt ops (i::is) env K:=by
 unfold m4;unfold gY at h ⊢;split at h
 ·exact h.elim
 rename_i o Α;refine⟨h.1,?_⟩
 replace h:=h.2
 split at h
 ·exact h.elim
 rename_i w hw;exact⟨h.1,λe=>aΑ (h.2 e)⟩
section
variable {P:Program} {T:bf} {mn:Bool} {du:Goroutine->Prop} {b:Frame} {cs:List Frame} {nt:Nat} {k:List Item} {env:aa} {ops:Array Oper} {i:Nat} {rest:List Nat} {op:Oper}
variable (gz:Jw P mn du) (hb:b.mode=.run)
include gz hb
theorem ad.to {ae:List Item} (ν:∀t w,stepG.exec P mn true (ax b t k) cs none w=.go (Go.Conc.G (ax b t ae) cs) w #[]) (h:ad du b cs nt ae env):ad du b cs nt k env:=
 λt I U=>gz _ _ ⟨rfl,rfl⟩ (λw=>(jf hb w).trans (ν t w)) (h t I U)
theorem ad.skip (h:ad du b cs nt k env):ad du b cs nt (.code .skip::k) env:=.to gz hb (λ_ _=>rfl) h
theorem ad.inBlock {l:Nat} (h:ad du b cs nt k env):ad du b cs nt (.inBlock l::k) env:=.to gz hb (λ_ _=>rfl) h
theorem ad.seq {a c:Code} (h:ad du b cs nt (.code a::.code c::k) env):ad du b cs nt (.code (.seq a c)::k) env:=.to gz hb (λ_ _=>rfl) h
theorem ad.block {l:Nat} {c:Code} (h:ad du b cs nt (.code c::.inBlock l::k) env):ad du b cs nt (.code (.block l c)::k) env:=.to gz hb (λ_ _=>rfl) h
theorem ad.loop {c:Code} (h:ad du b cs nt (.code c::.inLoop c::k) env):ad du b cs nt (.code (.loop c)::k) env:=.to gz hb (λ_ _=>rfl) h
theorem ad.inLoop {c:Code} (h:ad du b cs nt (.code c::.inLoop c::k) env):ad du b cs nt (.inLoop c::k) env:=.to gz hb (λ_ _=>rfl) h
theorem ad.cq {id:Nat} {ops:Array Oper} (h:ad du b cs nt (.inRegion ops (idx ops.size [])::k) env):ad du b cs nt (.code (.region id ops false)::k) env:=.to gz hb (λ_ _=>by rw[idx_eq];rfl) h
theorem ad.bI {ops:Array Oper} (h:ad du b cs nt k env):ad du b cs nt (.inRegion ops []::k) env:=.to gz hb (λ_ _=>rfl) h
theorem ad.exit {l:Nat} {ae:List Item} (he:exitTo l k=some ae) (h:ad du b cs nt ae env):ad du b cs nt (.code (.exit l)::k) env:=by
 refine .to gz hb (λt w=>?_) h;unfold stepG.exec;simp only[ax,he,Option.elim];rfl
theorem ad.cond {c:Operand} {a e:Code} {v:Bool} (ε:aT env c=.z (.bool v)) (h:ad du b cs nt (.code (if v then a else e)::k) env):ad du b cs nt (.code (.cond c a e)::k) env:=by
 intro t I U;refine gz _ _ ⟨rfl,rfl⟩ (λw=>?_) (h t I U);rw[jf hb w];have a8:(ax b t (.code (.cond c a e)::k)).eval c=.bool v:=by rw[zK];exact EM U ε
 unfold stepG.exec;simp only[ax] at a8 ⊢;rw[a8];rfl
theorem ad.m5 {c:Operand} {a e:Code} (ε:aT env c=.z (.bool true)) (h:ad du b cs nt (.code a::k) env):ad du b cs nt (.code (.cond c a e)::k) env:=.cond gz hb ε h
theorem ad.m6 {c:Operand} {a e:Code} (ε:aT env c=.z (.bool false)) (h:ad du b cs nt (.code e::k) env):ad du b cs nt (.code (.cond c a e)::k) env:=.cond gz hb ε h
theorem Jx {t:Array Value} (h:dj fg [] [] env t) (hd:h3 nt op=true) (Ν:t.size=nt) {a:η} {v:Value} (μ:av fg [] [] a v):(put op t v).size=nt/\dj fg [] [] (cj op env a) (put op t v):=⟨(rz h hd Ν μ).2,(rz h hd Ν μ).1⟩
theorem ad.unwanted (Α:ops[i]?=some op) (hw:fK env ops op=some false) (hd:h3 nt op=true) (h:ad du b cs nt (.inRegion ops rest::k) (cj op env .cp)):ad du b cs nt (.inRegion ops (i::rest)::k) env:=by
 intro t I U;obtain⟨s1,s2⟩:=Jx (b:=b) gz hb U hd I (a:=.cp) (v:=undef) (.cp _);refine gz _ _ ⟨rfl,rfl⟩ (λw=>?_) (h _ s1 s2);rw[jf hb,<-il Α];have vu:((ops[i]?).map (Region.wanted · (yielded ops t))).getD false=false:=by simp[Α,j' U hw]
 unfold stepG.exec;simp only[ax,vu];rfl
theorem ad.opn (Ι:bV P T) (cm:b.roundOf=none) (ς:b.kind≠.early) (Α:ops[i]?=some op) (hw:fK env ops op=some true) (hd:h3 nt op=true) {v:Value} (hv:(yw T env op).yv (.z v)) (h:ad du b cs nt (.inRegion ops rest::k) (cj op env (.z v))):ad du b cs nt (.inRegion ops (i::rest)::k) env:=by
 intro t I U;obtain⟨s1,s2⟩:=Jx (b:=b) gz hb U hd I (a:=.z v) (v:=v) (.z v);refine gz _ _ ⟨rfl,rfl⟩ (λw=>?_) (h _ s1 s2);have ν:=aυ Ι hv (ρ:=br t) λy u Ο=>EM U Ο;rw[gI hb cm,gI hb cm,<-uK,stepG_value (a:=⟨t,b.defers⟩) Α (j' U hw) ς (by rw[mc];exact(ν w).1)];unfold listed;rw[mc,(ν w).2,seen_none]
theorem ad.part (Ι:bV P T) (cm:b.roundOf=none) (ς:b.kind≠.early) (is kg:List Nat) {l:List Nat} (υ:l=is++kg) (h:∀Ε:aa->Prop,(∀env,ad du b cs nt (.inRegion ops kg::k) env->Ε env)->m4 T nt ops is env Ε):ad du b cs nt (.inRegion ops l::k) env:=by
 subst υ;have key:∀(is:List Nat) (env:aa),m4 T nt ops is env (λenv=>ad du b cs nt (.inRegion ops kg::k) env)->ad du b cs nt (.inRegion ops (is++kg)::k) env:=by
  intro is
  induction is with
  | nil=>intro env h;exact h
  | cons i is Β=>
   intro env h;unfold m4 gY at h;split at h
   ·exact h.elim
   rename_i o Α;obtain⟨hd,h⟩:=h;split at h
   ·exact h.elim
   rename_i w hw;cases w with
   | false=>exact .unwanted gz hb Α hw hd (Β _ (h.1 rfl))
   | true=>
    obtain⟨v,I,U⟩:=h.2 rfl;exact .opn gz hb Ι cm ς Α hw hd I (Β _ U)
 exact key is env (h _ λ_ h=>h)
theorem ad.region (Ι:bV P T) (cm:b.roundOf=none) (ς:b.kind≠.early) {id:Nat} (h:∀Ε:aa->Prop,(∀env,ad du b cs nt k env->Ε env)->m4 T nt ops (idx ops.size []) env Ε):ad du b cs nt (.code (.region id ops false)::k) env:=by
 refine .cq gz hb (.part gz hb Ι cm ς (idx ops.size []) [] θ λΕ ζ=>h Ε λenv Ψ=>ζ env (.bI gz hb Ψ))
theorem ad.EV (bW:mZ b ops i op) (hw:fK env ops op=some true) (hd:h3 nt op=true) {f:FuncId} {args:Array Operand} {ea:Array TypeId} (Ξ:op.op=.call ⟨.value (.func f),args,ea⟩) {v:Value} (he:Entry P f (λ_=>pure v)) (h:ad du b cs nt (.inRegion ops rest::k) (cj op env (.z v))):ad du b cs nt (.inRegion ops (i::rest)::k) env:=by
 intro t I U;obtain⟨s1,s2⟩:=Jx (b:=b) gz hb U hd I (a:=.z v) (v:=v) (.z v);exact gz _ _ ⟨rfl,rfl⟩ (λw=>EL he bW (j' U hw) Ξ (vs:=args.map (br t)) rfl θ θ θ) (h _ s1 s2)
theorem ad.I9 (bW:mZ b ops i op) (hw:fK env ops op=some true) (rA:op.dst=none) {f:FuncId} {ea:Array TypeId} (Ξ:op.op=.defer ⟨.value (.func f),#[],ea⟩)
  (h:ad du {b with defers:=Go.Conc.dcall f #[]::b.defers} cs nt (.inRegion ops rest::k) env):ad du b cs nt (.inRegion ops (i::rest)::k) env:=by
 intro t I U;refine gz _ (Go.Conc.G (ax {b with defers:=Go.Conc.dcall f #[]::b.defers} t (.inRegion ops rest::k)) cs) ⟨rfl,rfl⟩ (λw=>?_) (h t I U);rw[gI bW.run bW.ro,stepG_defer (a:=⟨t,b.defers⟩) bW.op (j' U hw) bW.kd Ξ];have:(⟨t,Go.Conc.dcall f #[]::b.defers⟩:_root_.Go.Act).put op.dst undef=⟨t,Go.Conc.dcall f #[]::b.defers⟩:=by rw[rA];rfl
 simp only[Array.map_empty,List.map_toArray,List.map_nil];rw[this,gI (b:={b with defers:=Go.Conc.dcall f #[]::b.defers}) bW.run bW.ro];rfl
theorem ad.call (bW:mZ b ops i op) (hw:fK env ops op=some true) {args:Array Operand} {ea:Array TypeId} {g:FuncId} (Ξ:op.op=.call ⟨.value (.func g),args,ea⟩) {vs:List Value} (qA:AP env args vs) {fn:Func} {body:Code} (bY:P.funcs[g]?=some fn) (vS:(fn.name == "runtime.NumGoroutine")=false) (nz:fn.body=some body) (Η:vs.length<=fn.ntmps)
  (h:∀t:Array Value,t.size=nt->dj fg [] [] env t->ad du (Frame.enter P g vs.toArray .normal) (ax b t (.inRegion ops (i::rest)::k)::cs) fn.ntmps [.code body] (entry 0 (vs.map η.z))):ad du b cs nt (.inRegion ops (i::rest)::k) env:=by
 intro t I U;have aY:=h t I U (vs.toArray++Array.replicate (fn.ntmps-vs.length) undef) (by simp;omega) (aφ vs Η);rw[show vs.toArray++Array.replicate (fn.ntmps-vs.length) undef=vs.toArray++Array.replicate (fn.ntmps-vs.toArray.size) undef by simp,<-qp bY nz] at aY;refine gz _ _ ⟨rfl,rfl⟩ (λw=>?_) aY;have k9:(fn.name == "runtime.NumGoroutine")=false:=vS;have D4:fn.body.isNone=false:=by rw[nz];rfl
 have κ:(execOp (br t) op).run P w=.ok (.enter g vs.toArray) w/\(execOp (br t) op).events P w #[]=#[]:=by
  have e:execOp (br t) op=callFunc g vs.toArray:=by
   unfold execOp;rw[Ξ];have:args.map (br t)=vs.toArray:=qA.br U;simp only[resolve];rw[this];simp[Deferred.ofValue,Go.TL.br,invoke]
  rw[e];unfold callFunc;have I:¬fn.name = "runtime.NumGoroutine" := by simpa using k9
  simp[bY,I,nz]
 rw[gI bW.run bW.ro,stepG_enter (a:=⟨t,b.defers⟩) bW.op (j' U hw) bW.kd (by rw[mc];exact κ.1)];unfold listed;rw[mc,κ.2,seen_none]
theorem ad.tg (cm:b.roundOf=none) (eP:b.defers=[]) (gR:b.kind=.normal) {fn:Func} (bY:P.funcs[b.fn]?=some fn) {d:Nat} (e5:fn.results=#[.tmp d]) {v:Value} (hv:a6 env d=.z v) {c:Frame}
  (h:du (Go.Conc.G (c.finish v) cs)):ad du b (c::cs) nt (.code .ret::k) env:=by
 intro t I U;have lP:t.getD d undef=v:=by
  have:=U d;rw[hv] at this;generalize t.getD d undef=u at this;cases this;rfl
 refine gz _ (Go.Conc.G {ax b t (.code .ret::k) with mode:=.returning} (c::cs)) ⟨rfl,rfl⟩ (λw=>?_) (gz _ _ ⟨rfl,rfl⟩ (λw=>?_) h)
 ·rw[jf hb];unfold stepG.exec;simp only[ax,cm];rfl
 ·rw[gI hb cm,stepG_leave (a:=⟨t,b.defers⟩) gR eP bY (results_tmp e5 _ P w) (events_results_tmp e5 _ _),lP]
theorem ad.EU (cm:b.roundOf=none) (eP:b.defers=[]) (gR:b.kind=.normal) {fn:Func} (bY:P.funcs[b.fn]?=some fn) (e5:fn.results=#[]) {c:Frame}
  (h:du (Go.Conc.G (c.finish (.tuple #[])) cs)):ad du b (c::cs) nt [] env:=by
 intro t I U;refine gz _ (Go.Conc.G {ax b t [] with mode:=.returning} (c::cs)) ⟨rfl,rfl⟩ (λw=>?_) (gz _ _ ⟨rfl,rfl⟩ (λw=>?_) h)
 ·rw[jf hb];unfold stepG.exec;simp only[ax,cm];rfl
 ·rw[gI hb cm,stepG_leave (a:=⟨t,b.defers⟩) gR eP bY (Go.results_none e5 _ P w) (Go.Conc.events_results_none e5 _ _)]
end
attribute [congr] aω
attribute [simp] wK aχ aψ yw
def kx (P:Program) (Q:Value->Prop) (mn:Bool) (y:aX) (g:Goroutine):Prop:=iE g/\Goes P Q mn g {y with G:=χ.empty}
def lx (P:Program) (d:Nat) (g:Goroutine):Prop:=∃n,QuitsD P n d g
theorem bu {P:Program} {Q:Value->Prop} {mn:Bool} {y:aX} (γ:eX y):Jw P mn (kx P Q mn y):=λg g' I U ξ=>⟨I,Quiet.goes (.cons I U (.nil _)) γ ξ.1 ξ.2⟩
theorem dV {P:Program} {d:Nat}:Jw P false (lx P d):=λg g' I U ⟨n,ξ⟩=>⟨n+1,.ctl I.1 U ξ⟩
section
variable {P:Program} {Q:Value->Prop} {mn:Bool} {y:aX} {b:Frame} {cs:List Frame} {nt:Nat} {k:List Item} {env:aa}
variable {ops:Array Oper} {i:Nat} {rest:List Nat} {op:Oper} {f:FuncId} {e:Array Value->Sem Value} {args:Array Operand} {vs:List Value}
theorem ad.leaves {d:Nat} (κ:y.rel=true) (Ρ:∀s,Gone (y.tok s)) (hd:y.deaf=d) (h:ad (lx P d) b cs nt k env):ad (kx P Q false y) b cs nt k env:=λt I U=>by
 obtain⟨n,Η⟩:=h t I U;subst hd;exact⟨⟨rfl,rfl⟩,Goes.quits n κ Ρ Η⟩
theorem ad.disable (γ:eX y) (h:g2 P b ops i op f (λ_=>do mark .disable;pure Extern.Race.none_) args env [] nt) (ς:ad (kx P Q mn {y with deaf:=y.deaf+1}) b cs nt (.inRegion ops rest::k) (cj op env oy)):ad (kx P Q mn y) b cs nt (.inRegion ops (i::rest)::k) env:=λt I U=>by
 obtain⟨s2,s1⟩:=rz U h.dst I (a:=oy) (v:=.tuple #[]) (.z _);exact⟨⟨rfl,rfl⟩,Goes.step γ.ok (.inr ⟨⟨rfl,rfl⟩,.inr (.inl ⟨Go.Conc.G (ax b (put op t (.tuple #[])) (.inRegion ops rest::k)) cs,⟨rfl,rfl⟩,.inl λw _=>
  ⟨h.step U (EN .disable) (EO .disable _) (rP θ),(ς _ s1 s2).2⟩⟩)⟩)⟩
def Jy (P:Program) (Q:Value->Prop) (mn:Bool) (y:aX) (b:Frame) (cs:List Frame) (nt:Nat) (ops:Array Oper) (rest:List Nat) (k:List Item) (op:Oper) (env:aa) (s φ:Nat) (ο:aP) (v:Value):Prop:=
 ad (kx P Q mn {y with view:=upd y.view s (some (φ,ο))}) b cs nt (.inRegion ops rest::k) (cj op env (.z v))
def Fb (P:Program) (Q:Value->Prop) (mn:Bool) (y:aX) (b:Frame) (cs:List Frame) (nt:Nat) (ops:Array Oper) (rest:List Nat) (k:List Item) (op:Oper) (env:aa) (s φ:Nat) (ο:aP) (v:Value) (o':aP) (t':Tok):Prop:=
 Act ο (y.tok s) o' t'/\∀cu,cu<φ->ad (kx P Q mn {y with tok:=upd y.tok s t',view:=upd y.view s (some (cu,o'))}) b cs nt (.inRegion ops rest::k) (cj op env (.z v))
theorem ad.ext (γ:eX y) {s:Nat} {sp:Spec} (b2:y.spec s=some sp) (cN:¬fZ (y.tok s)) (h:g2 P b ops i op f e args env vs nt)
  (aY:∀(w:World) (φ:Nat) (ο:aP),Seen y s sp φ ο->At s ο w->
   (∃v w' gu,(e vs.toArray).run P w=.ok v w'/\(e vs.toArray).events P w #[⟨.mark (Mark.extern f),false,true⟩]=#[⟨.mark (Mark.extern f),false,true⟩]++gu/\(∀y∈gu,y.sync=true/\∀g,y.loc≠.mark (Mark.extern g))/\
    fD (λΩ _=>ep s sp Ω) (λ_=>False) w w'/\oQ s sp y.deaf gu/\
    ((At s ο w'/\Jy P Q mn y b cs nt ops rest k op env s φ ο v)\/∃o' t',At s o' w'/\Fb P Q mn y b cs nt ops rest k op env s φ ο v o' t'))) :
  ad (kx P Q mn y) b cs nt (.inRegion ops (i::rest)::k) env:=by
 obtain⟨ea,Ξ⟩:=h.call;intro t I U;refine⟨⟨rfl,rfl⟩,Goes.step γ.ok (.inr ⟨⟨rfl,rfl⟩,.inr (.inr (.inr (.inl ⟨s,sp,b2,cN,λw φ ο Χ hv Α bE zm I5=>?_⟩)))⟩)⟩;obtain⟨v,w',gu,a1,bk,cz,gm,hO,mw⟩:=aY w φ ο ⟨Α,zm,I5⟩ bE;have cH:=EL (mn:=mn) (cs:=cs) (rest:=rest) (k:=k) h.nD h.at_ (j' U h.want) Ξ (h.AQ.br U) a1 bk cz;refine .inl ?_;rw[cH];obtain⟨s2,s1⟩:=rz U h.dst I (a:=.z v) (v:=v) (.z _);refine⟨⟨rfl,rfl⟩,gm,hO,?_⟩;rcases mw with⟨aE,bd⟩|⟨o',t',aE,bd,gT⟩
 ·exact .inl ⟨aE,(bd _ s1 s2).2⟩
 ·exact .inr ⟨o',t',bd,aE,.inl (Pg h.nD h.at_ Ξ),λcu ey=>(gT cu ey _ s1 s2).2⟩
section
variable {s:Nat} {sp:Spec} (γ:eX y) (hd:0<y.deaf) (b2:y.spec s=some sp) (cN:¬fZ (y.tok s))
include γ hd b2 cN
theorem ad.I6 (h:g2 P b ops i op f (Extern.Atomic.loadT (.int .u64)) args env [.pointer (some ⟨s,0,none⟩)] nt)
  (dr:∀φ ο,Seen y s sp φ ο->Jy P Q mn y b cs nt ops rest k op env s φ ο (.int .u64 (cR ο))):ad (kx P Q mn y) b cs nt (.inRegion ops (i::rest)::k) env:=by
 refine .ext γ b2 cN h λw φ ο ν bE=>?_;have ε:=bE.cV;refine⟨.int .u64 (cR ο),w,#[⟨.cell ⟨s,0,none⟩,false,true⟩],?_,?_,rT (rS _ false),fD.refl _ _ _,rQ (.inl rfl) hd (rS _ false),.inl ⟨bE,dr φ ο ν⟩⟩
 ·change Sem.run P (do Extern.Atomic.read (.int .u64) (<-asAddr (.pointer (some _)))) w=_;simp[Extern.Atomic.read,asAddr,ε]
 ·change Sem.events P (do Extern.Atomic.read (.int .u64) (<-asAddr (.pointer (some _)))) w _=_;simp[Extern.Atomic.read,asAddr,ε,events_load]
theorem ad.I7 {d:Int} (h:g2 P b ops i op f (Extern.Atomic.update (Op.intArith .add) .u64 true) args env [.pointer (some ⟨s,0,none⟩),.int .u64 d] nt)
  (dr:∀φ ο,Seen y s sp φ ο->∃o' t',cR o'=IntKind.u64.wrap (cR ο+d)/\o'.cL=ο.cL/\rU ο o'/\Fb P Q mn y b cs nt ops rest k op env s φ ο (.int .u64 (cR o')) o' t') :
  ad (kx P Q mn y) b cs nt (.inRegion ops (i::rest)::k) env:=by
 refine .ext γ b2 cN h λw φ ο ν bE=>?_;have ε:=bE.cV;have Θ:=bE.uM 0;obtain⟨o',t',I,U,ξ,Κ⟩:=dr φ ο ν;rw[I] at Κ;refine⟨_,_,_,run_add_entry ε Θ,(events_add_entry ε Θ _).trans rfl,rT (rR ⟨s,0,none⟩),bE.ym _,rQ (.inl rfl) hd (rR ⟨s,0,none⟩),.inr ⟨o',t',bE.yl ξ.aW ξ.g ξ.w ?_,Κ⟩⟩;rw[I,U];rfl
theorem ad.aΒ {d:Int} (h:g2 P b ops i op f Extern.Atomic.storeT args env [.pointer (some ⟨s,0,none⟩),.int .u64 d] nt)
  (dr:∀φ ο,Seen y s sp φ ο->∃o' t',cR o'=d/\o'.cL=ο.cL/\rU ο o'/\Fb P Q mn y b cs nt ops rest k op env s φ ο (.tuple #[]) o' t') :
  ad (kx P Q mn y) b cs nt (.inRegion ops (i::rest)::k) env:=by
 refine .ext γ b2 cN h λw φ ο ν bE=>?_;have ε:=bE.cV;have Θ:=bE.uM 0;obtain⟨o',t',I,U,ξ,Κ⟩:=dr φ ο ν;refine⟨.tuple #[],w.setCell ⟨s,0,none⟩ (.int .u64 d),#[⟨.cell ⟨s,0,none⟩,true,true⟩],?_,?_,rT (rS _ true),bE.ym _,rQ (.inl rfl) hd (rS _ true),.inr ⟨o',t',bE.yl ξ.aW ξ.g ξ.w (by rw[I,U];rfl),Κ⟩⟩
 ·change Sem.run P (do
   store (<-asAddr (.pointer (some _))) (.int .u64 d) .atomic
   pure Extern.Atomic.none_) w=_
  simp[asAddr,ε,Θ,run_store P w _ (.int .u64 d) .atomic rfl,Result.andThen,Extern.Atomic.none_]
 ·change Sem.events P (do
   store (<-asAddr (.pointer (some _))) (.int .u64 d) .atomic
   pure Extern.Atomic.none_) w _=_
  simp[asAddr,ε,Θ,events_store P w _ _ (.int .u64 d) .atomic rfl]
end
section
variable {s:Nat} {sp:Spec} (γ:eX y) (b2:y.spec s=some sp) (cN:¬fZ (y.tok s))
include γ b2 cN
theorem ad.aΓ (ai:vs[0]?=some (.pointer (some ⟨s,1,none⟩))) (h:g2 P b ops i op f Extern.Sync.semrelease args env vs nt)
  (dr:∀φ ο,Seen y s sp φ ο->ο.cL<1000/\∃o' t',cR o'=cR ο/\o'.cL=ο.cL+1/\rU ο o'/\Fb P Q mn y b cs nt ops rest k op env s φ ο (.tuple #[]) o' t') :
  ad (kx P Q mn y) b cs nt (.inRegion ops (i::rest)::k) env:=by
 refine .ext γ b2 cN h λw φ ο ν bE=>?_;have ε:=bE.Τ;obtain⟨aB,o',t',I,U,ξ,Κ⟩:=dr φ ο ν;refine⟨_,_,_,Pq ai ε (bE.uM 1),Pr ai ε (bE.uM 1) _,semEvents_sync _,bE.ym _,ET (.inl rfl),.inr ⟨o',t',bE.yl ξ.aW ξ.g ξ.w ?_,Κ⟩⟩;rw[I,U,show IntKind.u32.wrap (((ο.cL:Nat):Int)+1)=((ο.cL+1:Nat):Int) by simp only[IntKind.wrap_u32];omega];rfl
end
theorem P5 {t:Array Value} (hb:b.mode=.run) (cm:b.roundOf=none) (eP:b.defers=[Go.Conc.dcall f #[]]) (gR:b.kind=.normal) {fn:Func} (bY:P.funcs[b.fn]?=some fn) (e5:fn.results=#[]) (he:Entry P f (λ_=>do mark .enable;pure Extern.Race.none_)) {c:Frame}
  (h:lx P 0 (Go.Conc.G (c.finish (.tuple #[])) cs)):lx P 1 (Go.Conc.G {ax b t k with mode:=.returning} (c::cs)):=by
 obtain⟨lυ,Δ,Γ,a0,cG,e'⟩:=he;obtain⟨n,Η⟩:=h;rw[gI hb cm];refine⟨n+1+1,QuitsD.unwind_mark (a:=⟨t,b.defers⟩) (ds:=[]) .enable rfl θ eP Δ Γ a0 cG e' ?_⟩;exact .ctl rfl (λw=>stepG_leave (a:=⟨t,[]⟩) gR rfl bY (Go.results_none e5 _ P w) (Go.Conc.events_results_none e5 _ _)) Η
theorem ad.Jr (hb:b.mode=.run) (cm:b.roundOf=none) (eP:b.defers=[Go.Conc.dcall f #[]]) (gR:b.kind=.normal) {fn:Func} (bY:P.funcs[b.fn]?=some fn) (e5:fn.results=#[]) (he:Entry P f (λ_=>do mark .enable;pure Extern.Race.none_)) {c:Frame}
  (h:lx P 0 (Go.Conc.G (c.finish (.tuple #[])) cs)):ad (lx P 1) b (c::cs) nt (.code .ret::k) env:=λt _ _=>by
 refine dV _ (Go.Conc.G {ax b t (.code .ret::k) with mode:=.returning} (c::cs)) ⟨rfl,rfl⟩ (λw=>?_) (P5 hb cm eP gR bY e5 he h);rw[jf hb];unfold stepG.exec;simp only[ax,cm];rfl
theorem ad.aΔ (hb:b.mode=.run) (cm:b.roundOf=none) (eP:b.defers=[Go.Conc.dcall f #[]]) (gR:b.kind=.normal) {fn:Func} (bY:P.funcs[b.fn]?=some fn) (e5:fn.results=#[]) (he:Entry P f (λ_=>do mark .enable;pure Extern.Race.none_)) {c:Frame}
  (h:lx P 0 (Go.Conc.G (c.finish (.tuple #[])) cs)):ad (lx P 1) b (c::cs) nt [] env:=λt _ _=>by
 refine dV _ (Go.Conc.G {ax b t [] with mode:=.returning} (c::cs)) ⟨rfl,rfl⟩ (λw=>?_) (P5 hb cm eP gR bY e5 he h);rw[jf hb];unfold stepG.exec;simp only[ax,cm];rfl
end
def yx (x:aX):aX:={x with aK:=λ_=>none,rel:=true}
theorem V.G3 {P:Program} {Q:Value->Prop} {x:aX} {b:Frame} {cs:List Frame} {nt:Nat} {o:Base} {k:List Item} {env:aa} {ops:Array Oper} {i:Nat} {rest:List Nat} {op:Oper} {f:FuncId} {args:Array Operand} (γ:x.rel=false) {s n:Nat} {sp:Spec} {mu:lH} {v:Option (Nat×aP)} (b2:x.spec s=some sp) (tJ:mu=.done\/(mu=.idle/\sp.aW=none)) (cN:∀bp,bp≠s->fZ (x.tok bp)) (dZ:sp.D n χ.empty)
  (h:g2 P b ops i op f (Extern.Race.marked .releaseMerge) args env [.pointer (some ⟨s,0,none⟩)] nt) (he:∀p∈cj op env oy,∃v,p.2=η.z v)
  (ς:ad (kx P Q false (bx (yx x) s (.ch n mu .rel) none 0)) b cs nt (.inRegion ops rest::k) (cj op env oy)):V P Q false (one (bx x s (.ch n mu .work) v 0)) b cs nt o (.inRegion ops (i::rest)::k) env []:=by
 intro S B H t μ ψ y Ο;cases Ο;have mT:=ψ.put h.dst (a:=oy) (v:=.tuple #[]) (.z _);have Ρ:=(ς _ mT.size (A3 he mT.cx)).2;refine Goes.step (eX.ok (.inl γ)) (.inr ⟨⟨rfl,rfl⟩,.inr (.inr (.inr (.inr (.inr (.inr (.inl ⟨s,sp,n,mu,Go.Conc.G (ax b (put op t (.tuple #[])) (.inRegion ops rest::k)) cs,χ.empty,b2,b9 (v:=v) (d:=0),tJ,λbp iY=>by
  rw[show({bx x s (.ch n mu .work) v 0 with G:=H}:aX).tok bp=(bx x s (.ch n mu .work) v 0).tok bp from rfl,AU iY];exact cN bp iY,rfl,⟨rfl,rfl⟩,γ,λw _=>
  h.step ψ.cx (yi .releaseMerge _) (yj .releaseMerge _ _) (rP θ),⟨λb o v p ε=>(by cases ε),λb y ε=>(by cases ε),λb y ε=>(by cases ε)⟩,dZ,?_⟩))))))⟩)
 have e:({({bx x s (.ch n mu .work) v 0 with G:=H}:aX) with G:=χ.empty,aK:=λ_=>none,tok:=upd ({bx x s (.ch n mu .work) v 0 with G:=H}:aX).tok s (.ch n mu .rel),view:=upd ({bx x s (.ch n mu .work) v 0 with G:=H}:aX).view s none,rel:=true}:aX)={bx (yx x) s (.ch n mu .rel) none 0 with G:=χ.empty}:=by
  unfold bx yx;simp only[I']
 exact e▸Ρ
end Go.TL
namespace Go.TL
open Go.Conc Go.Proofs
open Go.ConcN (sumTo upd sumTo_upd upd_ne upd_same sumTo_congr le_sumTo)
noncomputable def Fc:Code:=Tryz.f140.body.getD .skip
noncomputable abbrev Jz (s:Nat):Frame:={Frame.enter Tryz.prog 140 #[ptr s 0,.int .i64 (-1)] .normal with defers:=[Go.Conc.dcall 161 #[]]}
theorem aΕ:IntKind.u64.wrap (IntKind.u64.wrap (-1)*2 ^ min 32 IntKind.u64.bits)=18446744069414584320:=bD
theorem aΖ:IntKind.u64.wrap (18446744073709551615*2 ^ min 32 IntKind.u64.bits)=18446744069414584320:=bD
theorem aΗ:IntKind.u64.wrap (-1)=18446744073709551615:=bD
theorem Fe:IntKind.i32.wrap (-1)=-1:=bD
section
variable {Q:Value->Prop} {c:Frame} {rest:List Frame} {s k:Nat} {sp:Spec} {v:Option (Nat×aP)}
theorem aΘ [bt] (Ι:lx Tryz.prog 0 (Go.Conc.G (c.finish (.tuple #[])) rest)) {cc w0:Nat} (I:cc<8) (U:w0<2) (ξ:0<cc\/w0=0) {env:aa} (cD:a6 env 0=.z (ptr s 0)) (Δ:a6 env 1=.z (.int .i64 (-1))) (cG:a6 env 4=.z (.bool false)) (lM:a6 env 6=.z (.int .u64 (h2 cc w0))) :
  ad (lx Tryz.prog 1) (Jz s) (c::rest) 117 [.code (dH [1,1,1,1] Fc)] env:=by
 have fin:∀(K:List Item) (env:aa),ad (lx Tryz.prog 1) (Jz s) (c::rest) 117 (.code .ret::K) env:=λK env=>ad.Jr rfl rfl rfl rfl Tryz.func140 rfl uN Ι
 have yy:¬(cc:Int)<0:=Int.not_lt.2 (Int.natCast_nonneg _)
 have hw:w0=0\/w0=1:=R
 have f1:=E6 cc I w0 U
 have f2:=E7 cc I w0 U
 have f3:=E8 cc I w0 U;generalize h2 cc w0=w at f1 f2 f3 lM;unfold Fc;by_cases ψ:0<cc
 ·have gf:(0:Int)<cc:=by exact_mod_cast ψ
  rcases hw with rfl|rfl
  ·(repeat (first|refine ad.seq dV rfl ?_|refine ad.block dV rfl ?_|refine ad.inBlock dV rfl ?_|refine ad.skip dV rfl ?_|refine ad.m5 dV rfl rfl ?_|refine ad.m6 dV rfl rfl ?_|(refine ad.region dV rfl Φ rfl (by simp[Frame.enter]) λΕ ζ=>?_;(try simp);(repeat (refine g6 ?_;simp[cD,Δ,cG,lM,f1,f2,f3,Fe,yy,ψ,gf]));refine ζ _ ?_)));exact fin _ _
  ·(repeat (first|refine ad.seq dV rfl ?_|refine ad.block dV rfl ?_|refine ad.inBlock dV rfl ?_|refine ad.skip dV rfl ?_|refine ad.m5 dV rfl rfl ?_|refine ad.m6 dV rfl rfl ?_|(refine ad.region dV rfl Φ rfl (by simp[Frame.enter]) λΕ ζ=>?_;(try simp);(repeat (refine g6 ?_;simp[cD,Δ,cG,lM,f1,f2,f3,Fe,yy,ψ,gf]));refine ζ _ ?_)));exact fin _ _
 ·have ai:w0=0:=ξ.resolve_left ψ
  have jM:cc=0:=Nat.eq_zero_of_not_pos ψ;subst ai;subst jM;(repeat (first|refine ad.seq dV rfl ?_|refine ad.block dV rfl ?_|refine ad.inBlock dV rfl ?_|refine ad.skip dV rfl ?_|refine ad.m5 dV rfl rfl ?_|refine ad.m6 dV rfl rfl ?_|(refine ad.region dV rfl Φ rfl (by simp[Frame.enter]) λΕ ζ=>?_;(try simp);(repeat (refine g6 ?_;simp[cD,Δ,cG,lM,f1,f2,f3,Fe]));refine ζ _ ?_)));exact fin _ _
structure qK (x:aX) (s:Nat) (sp:Spec):Prop where
 rel:x.rel=true
 spec:x.spec s=some sp
 top:sp.top<7
 shut:∀bp,bp≠s->fZ (x.tok bp)
theorem qK.here {x:aX} (h:qK x s sp) {g:tB} {d:Nat} (Ρ:g≠.gone):eX (bx x s (.ch k .done g) v d):=.inr ⟨s,by rw[b9];cases g<;>simp_all [Gone]⟩
theorem qK.gone {x:aX} (h:qK x s sp) {d:Nat}:∀bp,Gone ((bx x s (.ch k .done .gone) v d).tok bp):=λbp=>by
 by_cases e:bp=s
 ·subst e;rw[b9];trivial
 ·rw[AU e];have:=h.shut bp e;revert this;cases x.tok bp with
  | nil=>exact λ_=>trivial
  | par n p aJ=>cases aJ<;>exact λh=>h
  | ch k m g=>exact λh=>h.elim
theorem qK.E9 {x:aX} (ε:qK x s sp) {ο:aP} (h:ο.toSpec=sp):ο.top<7:=by have:=ε.top;rw[show ο.top=sp.top by rw[<-h]];exact this
theorem ad.back [bt] {du:Goroutine->Prop} {b:Frame} {cs:List Frame} {nt:Nat} {k:List Item} {env:aa} {ops:Array Oper} {i:Nat} {rest:List Nat} {op:Oper} {t:Array Value} {v:Value} (Α:ops[i]?=some op) (hd:h3 nt op=true) (Ν:t.size=nt) (ν:dj fg [] [] env t)
  (h:ad du b cs nt (.inRegion ops rest::k) (cj op env (.z v))):du (Go.Conc.G ((ax b t (.inRegion ops (i::rest)::k)).finish v) cs):=by
 rw[il Α];obtain⟨s2,s1⟩:=rz ν hd Ν (a:=.z v) (v:=v) (.z _);exact h _ s1 s2
theorem ad.P6 [bt] {P:Program} {b:Frame} {cs:List Frame} {nt:Nat} {env:aa} (hb:b.mode=.run) (cm:b.roundOf=none) (eP:b.defers=[]) (gR:b.kind=.deferred) {fn:Func} (bY:P.funcs[b.fn]?=some fn) (e5:fn.results=#[]) {c:Frame} (qJ:c.mode=.returning)
  (h:lx P 0 (Go.Conc.G c cs)):ad (lx P 0) b (c::cs) nt [] env:=λt _ _=>by
 obtain⟨n,Η⟩:=h;refine dV _ (Go.Conc.G {ax b t [] with mode:=.returning} (c::cs)) ⟨rfl,rfl⟩ (λw=>?_) ⟨n+1,?_⟩
 ·rw[jf hb];unfold stepG.exec;simp only[ax,cm];rfl
 ·rw[gI hb cm];exact QuitsD.leaveD (a:=⟨t,b.defers⟩) gR eP bY e5 qJ Η
theorem aΙ [bt] {x:aX} (ε:qK x s sp) {t:Tok} (aY:∀v,eX (bx x s t v 1)) (cN:¬fZ t) {cs:List Frame} (dr:∀φ ο,Seen (bx x s t v 1) s sp φ ο->kx Tryz.prog Q false (bx x s t (some (φ,ο)) 1) (Go.Conc.G (c.finish (.int .u64 (cR ο))) cs)) :
  ad (kx Tryz.prog Q false (bx x s t v 1)) (Frame.enter Tryz.prog 168 #[ptr s 0] .normal) (c::cs) 7 [.code (Tryz.f168.body.getD .skip)] (entry 0 [.z (ptr s 0)]):=by
 simp only[Tryz.f168,Option.getD_some];(repeat (first|refine ad.seq (bu (aY _)) rfl ?_|refine ad.block (bu (aY _)) rfl ?_|refine ad.inBlock (bu (aY _)) rfl ?_|refine ad.skip (bu (aY _)) rfl ?_|refine ad.m5 (bu (aY _)) rfl rfl ?_|refine ad.m6 (bu (aY _)) rfl rfl ?_|(refine ad.region (bu (aY _)) rfl Φ rfl (by simp[Frame.enter]) λΕ ζ=>?_;(try simp);(repeat (refine g6 ?_;simp[cN]));refine ζ _ ?_)));refine ad.cq (bu (aY _)) rfl ?_;refine ad.part (bu (aY _)) rfl Φ rfl (by simp[Frame.enter]) [0,1,2] [3,4] rfl λΕ ζ=>?_;(try simp[-wK]);(repeat (refine g6 ?_;simp));refine ζ _ ?_;refine ad.I6 (aY _) (Nat.succ_pos _) (sp:=sp) ε.spec (by rw[b9];exact cN) ⟨⟨rfl,rfl,by simp[Frame.enter],rfl⟩,PB,⟨_,rfl⟩,rfl,rfl,rfl⟩ λφ ο ν=>?_;unfold Jy;rw[kv];refine ad.part (bu (aY _)) rfl Φ rfl (by simp[Frame.enter]) [4] [] rfl λΕ ζ=>?_;(try simp[-wK]);(repeat (refine g6 ?_;simp));refine ζ _ ?_;refine ad.bI (bu (aY _)) rfl ?_;exact ad.tg (bu (aY _)) rfl rfl rfl rfl Tryz.func168 rfl rfl (dr φ ο ν)
theorem aΚ [bt] {x:aX} (ε:qK x s sp) {t t':Tok} {d:Int} (aY:∀v,eX (bx x s t v 1)) (P7:∀v,eX (bx x s t' v 1)) (cN:¬fZ t) {cs:List Frame} (dr:∀φ ο,Seen (bx x s t v 1) s sp φ ο->∃o',cR o'=d/\o'.cL=ο.cL/\rU ο o'/\Act ο t o' t'/\∀cu,cu<φ->kx Tryz.prog Q false (bx x s t' (some (cu,o')) 1) (Go.Conc.G (c.finish (.tuple #[])) cs)) :
  ad (kx Tryz.prog Q false (bx x s t v 1)) (Frame.enter Tryz.prog 169 #[ptr s 0,.int .u64 d] .normal) (c::cs) 9 [.code (Tryz.f169.body.getD .skip)] (entry 0 [.z (ptr s 0),.z (.int .u64 d)]):=by
 simp only[Tryz.f169,Option.getD_some];(repeat (first|refine ad.seq (bu (aY _)) rfl ?_|refine ad.block (bu (aY _)) rfl ?_|refine ad.inBlock (bu (aY _)) rfl ?_|refine ad.skip (bu (aY _)) rfl ?_|refine ad.m5 (bu (aY _)) rfl rfl ?_|refine ad.m6 (bu (aY _)) rfl rfl ?_|(refine ad.region (bu (aY _)) rfl Φ rfl (by simp[Frame.enter]) λΕ ζ=>?_;(try simp);(repeat (refine g6 ?_;simp[cN]));refine ζ _ ?_)));refine ad.cq (bu (aY _)) rfl ?_;refine ad.part (bu (aY _)) rfl Φ rfl (by simp[Frame.enter]) [0,1,2,3] [4] rfl λΕ ζ=>?_;(try simp[-wK]);(repeat (refine g6 ?_;simp));refine ζ _ ?_;refine ad.aΒ (aY _) (Nat.succ_pos _) (sp:=sp) ε.spec (by rw[b9];exact cN) ⟨⟨rfl,rfl,by simp[Frame.enter],rfl⟩,ZN,⟨_,rfl⟩,rfl,rfl,rfl⟩ λφ ο ν=>?_;obtain⟨o',a1,bk,cz,gm,hO⟩:=dr φ ο ν;refine⟨o',t',a1,bk,cz,by rw[b9];exact gm,λcu ey=>?_⟩;rw[g3];refine ad.bI (bu (P7 _)) rfl ?_;exact ad.EU (bu (P7 _)) rfl rfl rfl rfl Tryz.func169 rfl (hO cu ey)
theorem aΜ [bt] {x:aX} (ε:qK x s sp) {t:Tok} {d:Int} (aY:∀v,eX (bx x s t v 1)) (cN:¬fZ t) {cs:List Frame}
  (dr:∀φ ο,Seen (bx x s t v 1) s sp φ ο->∃o' t',cR o'=IntKind.u64.wrap (cR ο+d)/\o'.cL=ο.cL/\rU ο o'/\Act ο t o' t'/\∀cu,cu<φ->(((∀v,eX (bx x s t' v 1))/\kx Tryz.prog Q false (bx x s t' (some (cu,o')) 1) (Go.Conc.G (c.finish (.int .u64 (cR o'))) cs))\/((∀bp,Gone ((bx x s t' (some (cu,o')) 1).tok bp))/\lx Tryz.prog 1 (Go.Conc.G (c.finish (.int .u64 (cR o'))) cs)))) :
  ad (kx Tryz.prog Q false (bx x s t v 1)) (Frame.enter Tryz.prog 166 #[ptr s 0,.int .u64 d] .normal) (c::cs) 10 [.code (Tryz.f166.body.getD .skip)] (entry 0 [.z (ptr s 0),.z (.int .u64 d)]):=by
 simp only[Tryz.f166,Option.getD_some];(repeat (first|refine ad.seq (bu (aY _)) rfl ?_|refine ad.block (bu (aY _)) rfl ?_|refine ad.inBlock (bu (aY _)) rfl ?_|refine ad.skip (bu (aY _)) rfl ?_|refine ad.m5 (bu (aY _)) rfl rfl ?_|refine ad.m6 (bu (aY _)) rfl rfl ?_|(refine ad.region (bu (aY _)) rfl Φ rfl (by simp[Frame.enter]) λΕ ζ=>?_;(try simp);(repeat (refine g6 ?_;simp[cN]));refine ζ _ ?_)));refine ad.cq (bu (aY _)) rfl ?_;refine ad.part (bu (aY _)) rfl Φ rfl (by simp[Frame.enter]) [0,1,2,3] [4,5] rfl λΕ ζ=>?_;(try simp[-wK]);(repeat (refine g6 ?_;simp));refine ζ _ ?_;refine ad.I7 (aY _) (Nat.succ_pos _) (sp:=sp) ε.spec (by rw[b9];exact cN) ⟨⟨rfl,rfl,by simp[Frame.enter],rfl⟩,PA,⟨_,rfl⟩,rfl,rfl,rfl⟩ λφ ο ν=>?_;obtain⟨o',t',a1,bk,cz,gm,hO⟩:=dr φ ο ν;refine⟨o',t',a1,bk,cz,by rw[b9];exact gm,λcu ey=>?_⟩;rw[g3];rcases hO cu ey with⟨bJ,c8⟩|⟨bJ,c8⟩
 ·refine ad.part (bu (bJ _)) rfl Φ rfl (by simp[Frame.enter]) [5] [] rfl λΕ ζ=>?_;(try simp[-wK]);(repeat (refine g6 ?_;simp));refine ζ _ ?_;refine ad.bI (bu (bJ _)) rfl ?_;exact ad.tg (bu (bJ _)) rfl rfl rfl rfl Tryz.func166 rfl rfl c8
 ·refine ad.leaves (d:=1) ε.rel bJ rfl ?_;refine ad.part dV rfl Φ rfl (by simp[Frame.enter]) [5] [] rfl λΕ ζ=>?_;(try simp[-wK]);(repeat (refine g6 ?_;simp));refine ζ _ ?_;refine ad.bI dV rfl ?_;exact ad.tg dV rfl rfl rfl rfl Tryz.func166 rfl rfl c8
theorem aΝ [bt] {x:aX} (ε:qK x s sp) (Ι:lx Tryz.prog 0 (Go.Conc.G (c.finish (.tuple #[])) rest)) {env:aa} (cD:a6 env 0=.z (ptr s 0)) (Δ:a6 env 1=.z (.int .i64 (-1))) (cG:a6 env 4=.z (.bool false)) (lM:a6 env 6=.z (.int .u64 (h2 0 1))) :
  ad (kx Tryz.prog Q false (bx x s (.ch k .done .l2) v 1)) (Jz s) (c::rest) 117 [.code (dH [1,1,1,1] Fc)] env:=by
 have f1:=E6 0 bD 1 bD
 have f2:=E7 0 bD 1 bD
 have f3:=E8 0 bD 1 bD
 have jr:h2 0 1=1:=bD;generalize hw:h2 0 1=w at f1 f2 f3 lM;have U:=ε.here (k:=k) (v:=v) (d:=1) (g:=.l2) θ;unfold Fc;(repeat (first|refine ad.seq (bu U) rfl ?_|refine ad.block (bu U) rfl ?_|refine ad.inBlock (bu U) rfl ?_|refine ad.skip (bu U) rfl ?_|refine ad.m5 (bu U) rfl rfl ?_|refine ad.m6 (bu U) rfl rfl ?_|(refine ad.region (bu U) rfl Φ rfl (by simp[Frame.enter]) λΕ ζ=>?_;(try simp);(repeat (refine g6 ?_;simp[cD,Δ,cG,lM,f1,f2,f3,Fe]));refine ζ _ ?_)));refine ad.cq (bu U) rfl ?_;refine ad.part (bu U) rfl Φ rfl (by simp[Frame.enter]) [0,1,2] [3,4,5] rfl λΕ ζ=>?_;(repeat (refine g6 ?_;simp[cD]));refine ζ _ ?_;refine ad.call (bu U) rfl ⟨rfl,rfl,by simp[Frame.enter],rfl⟩ rfl rfl (vs:=[ptr s 0]) rfl Tryz.func168 rfl rfl (by simp[Tryz.ntmps168]) λt Ν ν=>?_;have ho:∀v,eX (bx x s (.ch k .done .l2) v 1):=λv=>ε.here θ;have jZ:∀v,eX (bx x s (.ch k .done .hN) v 1):=λv=>ε.here θ;refine aΙ ε ho id λφ ο rX=>?_;have ς:=rX.jo.tk;rw[b9] at ς;obtain⟨Τ,af⟩:=ς.l2 k _ rfl;have q8:cR ο=w:=by rw[<-hw];simp only[cR,Τ,af]
 rw[q8];refine ad.back rfl rfl Ν ν ?_;refine ad.part (bu (ho _)) rfl Φ rfl (by simp[Frame.enter]) [4,5] [] rfl λΕ ζ=>?_;(repeat (refine g6 ?_;simp[lM]));refine ζ _ ?_;refine ad.bI (bu (ho _)) rfl ?_;(repeat (first|refine ad.seq (bu (ho _)) rfl ?_|refine ad.block (bu (ho _)) rfl ?_|refine ad.inBlock (bu (ho _)) rfl ?_|refine ad.skip (bu (ho _)) rfl ?_|refine ad.m5 (bu (ho _)) rfl rfl ?_|refine ad.m6 (bu (ho _)) rfl rfl ?_|(refine ad.region (bu (ho _)) rfl Φ rfl (by simp[Frame.enter]) λΕ ζ=>?_;(try simp);(repeat (refine g6 ?_;simp[cD]));refine ζ _ ?_)));refine ad.cq (bu (ho _)) rfl ?_;refine ad.part (bu (ho _)) rfl Φ rfl (by simp[Frame.enter]) [0,1,2] [3] rfl λΕ ζ=>?_;(repeat (refine g6 ?_;simp[cD]));refine ζ _ ?_;refine ad.call (bu (ho _)) rfl ⟨rfl,rfl,by simp[Frame.enter],rfl⟩ rfl rfl (vs:=[ptr s 0,.int .u64 0]) rfl Tryz.func169 rfl rfl (by simp[Tryz.ntmps169]) λt3 aΞ rW=>?_;refine aΚ ε (t':=.ch k .done .hN) ho jZ id λA5 aΟ aΡ=>?_;have wG:=aΡ.jo.tk;rw[b9] at wG;obtain⟨aZ,cA⟩:=wG.l2 k _ rfl;refine⟨{aΟ with wt:=0},by simp only[cR,cA];rfl,rfl,⟨rfl,rfl,rfl⟩,.Tv,λlφ lχ=>?_⟩;refine ad.back rfl rfl aΞ rW ?_;refine ad.bI (bu (jZ _)) rfl ?_;(repeat (first|refine ad.seq (bu (jZ _)) rfl ?_|refine ad.block (bu (jZ _)) rfl ?_|refine ad.inBlock (bu (jZ _)) rfl ?_|refine ad.skip (bu (jZ _)) rfl ?_|refine ad.m5 (bu (jZ _)) rfl rfl ?_|refine ad.m6 (bu (jZ _)) rfl rfl ?_|(refine ad.region (bu (jZ _)) rfl Φ rfl (by simp[Frame.enter]) λΕ ζ=>?_;(try simp);(repeat (refine g6 ?_;simp[cD,cG]));refine ζ _ ?_)));refine ad.loop (bu (jZ _)) rfl ?_;(repeat (first|refine ad.seq (bu (jZ _)) rfl ?_|refine ad.block (bu (jZ _)) rfl ?_|refine ad.inBlock (bu (jZ _)) rfl ?_|refine ad.skip (bu (jZ _)) rfl ?_|refine ad.m5 (bu (jZ _)) rfl rfl ?_|refine ad.m6 (bu (jZ _)) rfl rfl ?_|(refine ad.region (bu (jZ _)) rfl Φ rfl (by simp[Frame.enter]) λΕ ζ=>?_;(try simp);(repeat (refine g6 ?_;simp[cD,cG]));refine ζ _ ?_)));refine ad.cq (bu (jZ _)) rfl ?_;refine ad.part (bu (jZ _)) rfl Φ rfl (by simp[Frame.enter]) [0,1,2] [3] rfl λΕ ζ=>?_;(repeat (refine g6 ?_;simp[cD]));refine ζ _ ?_;refine ad.aΓ (jZ _) (sp:=sp) ε.spec (by rw[b9];exact id) (vs:=[ptr s 1,.bool false,.int .i64 0]) rfl ⟨⟨rfl,rfl,by simp[Frame.enter],rfl⟩,ZS,⟨_,rfl⟩,rfl,rfl,rfl⟩ λlψ P8 aΤ=>?_;have P9:=aΤ.jo.tk;rw[b9] at P9;refine⟨by have:=P9.cL;omega,{P8 with cL:=P8.cL+1},.ch k .done .gone,rfl,rfl,⟨rfl,rfl,rfl⟩,by rw[b9];exact .Tw,λlω lΑ=>?_⟩;rw[g3];refine ad.leaves (d:=1) ε.rel ε.gone rfl ?_;refine ad.bI dV rfl ?_;(repeat (first|refine ad.seq dV rfl ?_|refine ad.block dV rfl ?_|refine ad.inBlock dV rfl ?_|refine ad.skip dV rfl ?_|refine ad.m5 dV rfl rfl ?_|refine ad.m6 dV rfl rfl ?_|(refine ad.region dV rfl Φ rfl (by simp[Frame.enter]) λΕ ζ=>?_;(try simp);(repeat (refine g6 ?_;simp[cD,Fa]));refine ζ _ ?_)));refine ad.inLoop dV rfl ?_;(repeat (first|refine ad.seq dV rfl ?_|refine ad.block dV rfl ?_|refine ad.inBlock dV rfl ?_|refine ad.skip dV rfl ?_|refine ad.m5 dV rfl rfl ?_|refine ad.m6 dV rfl rfl ?_|(refine ad.region dV rfl Φ rfl (by simp[Frame.enter]) λΕ ζ=>?_;(try simp);(repeat (refine g6 ?_;simp[cD,Fa]));refine ζ _ ?_)));refine ad.exit dV rfl rfl ?_;exact ad.aΔ rfl rfl rfl rfl Tryz.func140 rfl uN Ι
structure P' (x:aX) (s:Nat) (sp:Spec):Prop where
 rel:x.rel=false
 aK:x.aK=λ_=>none
 spec:x.spec s=some sp
 top:sp.top<7
 shut:∀bp,bp≠s->fZ (x.tok bp)
theorem aΥ {x:aX} {H:χ} (ε:P' x s sp) (dZ:sp.D k χ.empty) (qJ:c.mode=.returning) (Ι:lx Tryz.prog 0 (Go.Conc.G c rest)) :
  cw Tryz.prog Q false (bx x s (.ch k .done .work) v 0) (Frame.enter Tryz.prog 142 #[ptr s 0] .deferred) (c::rest) H:=by
 letI:bt:=eG;have γ:∀t v d,Seq (one (bx x s t v d)):=λt v d=>Seq.uL trivial ε.rel ε.aK;have Ρ:qK (yx x) s sp:=⟨rfl,ε.spec,ε.top,ε.shut⟩;have κ:∀v d,eX (bx (yx x) s (.ch k .done .rel) v d):=λv d=>Ρ.here θ;have υ:∀v d,eX (bx (yx x) s (.ch k .done .l2) v d):=λv d=>Ρ.here θ;rw[qp (body:=Tryz.f142.body.getD .skip) Tryz.func142 rfl];refine V.here (x:=one _) (m:=0) (nt:=4) (S:=fg) (B:=[]) (σ:=[]) (env:=entry 0 [.z (ptr s 0)]) ?_ (fI.enter (ys H) ⟨rfl,λi a v I U=>?_⟩ (Nat.le_refl _) θ) _ rfl
 ·refine V.fL (γ _ _ _) rfl ?_;simp only[Tryz.f142,Option.getD_some]
  repeat first|apply a3|apply wb|apply a4|apply wd
  refine W.cq ?_;refine ft [0] [1] ?_;refine W.stop ?_;refine V.call (γ _ _ _) ⟨rfl,rfl,by simp[Frame.enter],rfl⟩ rfl rfl rfl ⟨_,Tryz.func140,rfl,rfl⟩ λbM bR H1 t1 po μ ψ hv=>?_;obtain rfl:=m0 (l:=[ptr s 0,.int .i64 (-1)]) hv;obtain rfl:bR=[]:=dw.1 ψ.holds.len;rintro y rfl;refine V.qC (z:=one _) (vs:=[ptr s 0,.int .i64 (-1)]) Tryz.func140 rfl ψ.holds (by simp[Tryz.ntmps140]) ?_ _ rfl;refine V.fL (γ _ _ _) rfl ?_;(repeat (first|apply a3|apply wb|apply a4|apply wd|refine al rfl ?_|refine aj rfl ?_|(refine bC λΕ ζ=>?_;simp;(repeat (rw[Υ];simp[]));apply ζ)));refine W.cq ?_;refine ft [0] [1,2] ?_;refine W.stop ?_;refine V.conv (γ _ _ _).here (sp:=sp) ε.spec (by rw[b9];exact id) ⟨rfl,rfl,by simp[Frame.enter],rfl⟩ rfl rfl rfl Jh uO Ji rfl (λο w Α bE=>⟨_,bE.cV⟩) (λφ ο ν=>?_);unfold h7;rw[kv];refine V.G3 ε.rel (sp:=sp) ε.spec (.inl rfl) ε.shut dZ ⟨⟨rfl,rfl,by simp[Frame.enter],rfl⟩,Px,⟨_,rfl⟩,rfl,rfl,rfl⟩ θ ?_;refine ad.bI (bu (κ _ _)) rfl ?_;(repeat (first|refine ad.seq (bu (κ _ _)) rfl ?_|refine ad.block (bu (κ _ _)) rfl ?_|refine ad.inBlock (bu (κ _ _)) rfl ?_|refine ad.skip (bu (κ _ _)) rfl ?_|refine ad.m5 (bu (κ _ _)) rfl rfl ?_|refine ad.m6 (bu (κ _ _)) rfl rfl ?_|(refine ad.region (bu (κ _ _)) rfl Φ rfl (by simp[Frame.enter]) λΕ ζ=>?_;(try simp);(repeat (refine g6 ?_;simp[qJ]));refine ζ _ ?_)));refine ad.cq (bu (κ _ _)) rfl ?_;refine ad.disable (κ _ _) ⟨⟨rfl,rfl,by simp[Frame.enter],rfl⟩,AW,⟨_,rfl⟩,rfl,rfl,rfl⟩ ?_;rw[AS];refine ad.bI (bu (κ _ _)) rfl ?_;refine ad.cq (bu (κ _ _)) rfl ?_;refine ad.I9 (bu (κ _ _)) rfl ⟨rfl,rfl,by simp[Frame.enter],rfl⟩ rfl rfl rfl ?_;refine ad.bI (bu (κ _ _)) rfl ?_;(repeat (first|refine ad.seq (bu (κ _ _)) rfl ?_|refine ad.block (bu (κ _ _)) rfl ?_|refine ad.inBlock (bu (κ _ _)) rfl ?_|refine ad.skip (bu (κ _ _)) rfl ?_|refine ad.m5 (bu (κ _ _)) rfl rfl ?_|refine ad.m6 (bu (κ _ _)) rfl rfl ?_|(refine ad.region (bu (κ _ _)) rfl Φ rfl (by simp[Frame.enter]) λΕ ζ=>?_;(try simp);(repeat (refine g6 ?_;simp[qJ]));refine ζ _ ?_)));refine ad.cq (bu (κ _ _)) rfl ?_;refine ad.EV (bu (κ _ _)) rfl ⟨rfl,rfl,by simp[Frame.enter],rfl⟩ rfl rfl rfl Py ?_;refine ad.bI (bu (κ _ _)) rfl ?_;(repeat (first|refine ad.seq (bu (κ _ _)) rfl ?_|refine ad.block (bu (κ _ _)) rfl ?_|refine ad.inBlock (bu (κ _ _)) rfl ?_|refine ad.skip (bu (κ _ _)) rfl ?_|refine ad.m5 (bu (κ _ _)) rfl rfl ?_|refine ad.m6 (bu (κ _ _)) rfl rfl ?_|(refine ad.region (bu (κ _ _)) rfl Φ rfl (by simp[Frame.enter]) λΕ ζ=>?_;(try simp);(repeat (refine g6 ?_;simp[qJ]));refine ζ _ ?_)));refine ad.cq (bu (κ _ _)) rfl ?_;refine ad.part (bu (κ _ _)) rfl Φ rfl (by simp[Frame.enter]) [0,1,2,3,4,5] [6,7] rfl λΕ ζ=>?_;(repeat (refine g6 ?_;simp[aΗ,aΕ,aΖ]));refine ζ _ ?_;refine ad.call (bu (κ _ _)) rfl ⟨rfl,rfl,by simp[Frame.enter],rfl⟩ rfl rfl (vs:=[ptr s 0,.int .u64 18446744069414584320]) rfl Tryz.func166 rfl rfl (by simp[Tryz.ntmps166]) λt2 wM dX=>?_;refine aΜ Ρ (λv=>κ v 1) id λφ ο rW=>?_;have ς:=rW.jo.tk;rw[b9] at ς;have fr:1<=ο.cnt:=ς.live;have gJ:=Ρ.E9 rW.spec;have P4:=ς.cnt;have q6:=ς.wt;obtain⟨cc,ji⟩:=aF (ο.cnt-1);have A9:ο.cnt<8/\0<ο.cnt/\cc<8/\ο.wt<2:=R;have Qa:cR {ο with cnt:=cc}=IntKind.u64.wrap (cR ο+18446744069414584320):=by
   rw[uR,uR,aζ ο.cnt A9.1 ο.wt A9.2.2.2 A9.2.1,ji]
  by_cases jG:ο.cnt=1/\ο.wt=1
  ·have jM:cc=0:=by omega
   refine⟨{ο with cnt:=cc},.ch k .done .l2,Qa,rfl,⟨rfl,rfl,rfl⟩,by rw[ji];exact .Tt jG.1 jG.2,λcu ey=>.inl ⟨λv=>υ v 1,?_⟩⟩;have q8:cR {ο with cnt:=cc}=h2 0 1:=by rw[uR,jM];simp only[jG.2]
   rw[q8];refine ad.back rfl rfl wM dX ?_;refine ad.part (bu (υ _ _)) rfl Φ rfl (by simp[Frame.enter]) [7] [] rfl λΕ ζ=>?_;(repeat (refine g6 ?_;simp));refine ζ _ ?_;refine ad.bI (bu (υ _ _)) rfl ?_;refine aΝ Ρ ?_ rfl rfl rfl rfl;exact ad.back (nt:=4) rfl rfl ψ.size (A3 θ ψ.cx) (ad.bI dV rfl (ad.P6 rfl rfl rfl rfl Tryz.func142 rfl qJ Ι))
  ·refine⟨{ο with cnt:=cc},.ch k .done .gone,Qa,rfl,⟨rfl,rfl,rfl⟩,by rw[ji];exact .Tu R,λcu ey=>.inr ⟨Ρ.gone,?_⟩⟩;have q8:cR {ο with cnt:=cc}=h2 cc ο.wt:=rfl;rw[q8];refine ad.back rfl rfl wM dX ?_;refine ad.part dV rfl Φ rfl (by simp[Frame.enter]) [7] [] rfl λΕ ζ=>?_;(repeat (refine g6 ?_;simp));refine ζ _ ?_;refine ad.bI dV rfl ?_;refine aΘ ?_ (cc:=cc) (w0:=ο.wt) A9.2.2.1 A9.2.2.2 R rfl rfl rfl rfl;exact ad.back (nt:=4) rfl rfl ψ.size (A3 θ ψ.cx) (ad.bI dV rfl (ad.P6 rfl rfl rfl rfl Tryz.func142 rfl qJ Ι))
 ·cases i with
  | zero=>simp at I U;subst I;subst U;exact .z _
  | succ i=>simp at I
end
end Go.TL
