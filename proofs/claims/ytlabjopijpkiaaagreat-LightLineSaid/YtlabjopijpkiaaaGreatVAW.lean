import Derived.Test.YtlabjopijpkiaaaGreatVAV
set_option maxHeartbeats 16000000
set_option maxRecDepth 20000
set_option linter.unusedSectionVars false
set_option linter.unusedSimpArgs false
set_option linter.unusedVariables false
namespace Go.TL
open Go.Conc Go.Proofs
open Go.ConcN (sumTo upd sumTo_upd upd_ne upd_same sumTo_congr le_sumTo)
noncomputable def AN:Code:=Tryz.f146.body.getD .skip
noncomputable def nP:Code:=dV [1,0,0] AN
noncomputable def wq:List Item:=[.inLoop nP,.inBlock 0]
theorem OF:eY .u64 0 2147483648=0:=bu
theorem OG:eY .u64 0 2147483647=0:=bu
theorem EH:IntKind.u32.wrap 0=0:=bu
theorem OH:IntKind.i32.wrap 0=0:=bu
section
variable {Q:Value->Prop} {mn:Bool} {x:aZ} {c:Frame} {rest:List Frame} {S:aJ} {B:aV} {σ:List Row} {H:χ} {s n p:Nat} {sp:Spec} {v:Option (Nat×aS)} {t:Tok}
abbrev uC (Q:Value->Prop) (mn:Bool) (x:aZ) (c:Frame) (rest:List Frame) (S:aJ) (H:χ) (s:Nat) (t:Tok) (v:Option (Nat×aS)) (d:Nat) (K:List Item) (env:Ω):Prop:=
 V Tryz.prog Q mn (one (bx x s t v d)) (Frame.enter Tryz.prog 146 #[ptr s 0] .normal) (c::rest) 84 ⟨S,[],H,[],0⟩ K env []
def rM (Q:Value->Prop) (mn:Bool) (x:aZ) (c:Frame) (rest:List Frame) (S:aJ) (H:χ) (s n:Nat) (sp:Spec):Prop:=
 ∀(aE:aJ) (H':χ) (gx fL:List Nat) (gT eL:χ),Ext S [] H aE [] H'->Holds aE [] [] H'->gx.Perm (List.range n)->lN sp.D gx gT->(sp.aW≠none->fL.Perm (List.range n)/\sp.an fL eL)->(sp.aW=none->eL=χ.empty)->Apart H' gT->Apart H' eL->Apart gT eL->(∃w,Fits H' w/\Fits gT w/\Fits eL w)->
  ∀(v:Option (Nat×aS)) (c9:aJ) (bR:χ),Ext fj [] (join (join H' gT) eL) c9 [] bR->cx Tryz.prog Q mn (bx x s (.par n 0 .bB) v 0) (c.finish (.tuple #[])) rest bR
theorem rM.later {c9:aJ} {bR:χ} (h:rM Q mn x c rest S H s n sp) (he:Ext S [] H c9 [] bR):rM Q mn x c rest c9 bR s n sp:=
 λaE H' gx fL gT eL a1 bd cI gv hT mq u4 tp yX FJ v kQ jC yY=>h aE H' gx fL gT eL (he.trans a1) bd cI gv hT mq u4 tp yX FJ v kQ jC yY
theorem OI (δ:mf x s sp) (Κ:∀(v:Option (Nat×aS)) (c9:aJ) (bR:χ),Ext fj [] H c9 [] bR->cx Tryz.prog Q mn (bx x s (.par n 0 .bB) v 0) (c.finish (.tuple #[])) rest bR) {K:List Item} {env:Ω}:uC Q mn x c rest fj H s (.par n 0 .bB) v 0 (.code .ret::K) env:=by
 letI:bn:=e1;have γ:=δ.seq;refine V.Ia (γ _ _ _) rfl rfl rfl rfl Tryz.func146 rfl λbN bT H1 κ Α=>?_;obtain rfl:bT=[]:=dG.1 Α.len;rintro y rfl;exact Κ v bN H1 κ.ext
theorem OJ (δ:mf x s sp) (da:rM Q mn x c rest S H s n sp):uC Q mn x c rest S H s (.par n 0 .mj) v 1 (.code (dV [0,1] nP)::.inBlock 1::wq) [(0,.z (ptr s 0)),(2,.z (.int .u64 0))]:=by
 letI:bn:=e1;have γ:=δ.seq;refine V.b6 (γ _ _ _) ?_;unfold nP AN;(repeat (first|apply a3|apply wb|apply a4|apply wd|refine ai rfl ?_|refine aa rfl ?_|(refine bs λΕ ζ=>?_;simp;(repeat (rw[Ο];simp[OF,OG,EH,OH]));apply ζ)));refine W.cr (.stop ?_);refine V.enable (γ _ _ _).here (Nat.succ_pos _) ⟨⟨rfl,rfl,by simp[Frame.enter],rfl⟩,uw,⟨_,rfl⟩,rfl,rfl,rfl⟩ ?_;rw[Ax];refine V.b6 (γ _ _ _) ?_;refine W.bJ ?_;refine W.cr ?_;refine fw [0] [1,2] ?_;refine W.stop ?_;refine V.conv (γ _ _ _).here (sp:=sp) δ.spec (by rw[b7];exact id) ⟨rfl,rfl,by simp[Frame.enter],rfl⟩ rfl rfl rfl Im uy Io rfl (λξ w ω bE=>⟨_,bE.cP⟩) (λφ ξ ν=>?_);unfold iv;rw[kA];refine V.Cc δ.rel rfl (sp:=sp) δ.spec b7 (.inl rfl) ⟨⟨rfl,rfl,by simp[Frame.enter],rfl⟩,Ev,⟨_,rfl⟩,rfl,rfl,rfl⟩ λbN bT H1 t1 gx fL gT eL κ ψ bw dm fJ mB uf Iy Iz IA=>?_;rw[g6];obtain rfl:bT=[]:=dG.1 ψ.holds.len;have Κ:=da bN H1 gx fL gT eL κ.ext ψ.holds bw dm fJ mB uf Iy Iz IA;refine V.here (x:=one _) (S:=fj) (B:=[]) (σ:=[]) (m:=0) (nt:=84) ?_ (ψ.none η) _ rfl;refine V.b6 (γ _ _ _) ?_;refine W.bJ ?_;(repeat (first|apply a3|apply wb|apply a4|apply wd|refine ai rfl ?_|refine aa rfl ?_|(refine bs λΕ ζ=>?_;simp;(repeat (rw[Ο];simp[OF,OG,EH,OH]));apply ζ)));exact .stop (OI δ Κ)
theorem YK (δ:mf x s sp) (da:rM Q mn x c rest S H s n sp):uC Q mn x c rest S H s (.par n 0 .w4) v 1 (.code (dV [0,1,1,1,1,1,0,1,1,1,1] nP)::.inBlock 1::wq) [(0,.z (ptr s 0))]:=by
 letI:bn:=e1;have γ:=δ.seq;refine V.b6 (γ _ _ _) ?_;unfold nP AN
 repeat first|apply a3|apply wb|apply a4|apply wd
 refine W.cr ?_;refine fw [0,1,2] [3,4,5] ?_;refine W.stop ?_;refine V.call (γ _ _ _) ⟨rfl,rfl,by simp[Frame.enter],rfl⟩ rfl rfl rfl ⟨_,Tryz.func168,rfl,rfl⟩ λbN bT H1 t1 o7 κ ψ hv=>?_;obtain rfl:=m1 (l:=[ptr s 0]) hv;obtain rfl:bT=[]:=dG.1 ψ.holds.len;rintro y rfl;refine Iw δ id ψ.holds λφ ξ ν=>.inl λc9 bR lr jx=>?_;have ς:=ν.jE.sY;rw[b7] at ς;obtain⟨Χ,ak,aY⟩:=ς.fin n 0 (.inr (.inl rfl));have Ξ:cW ξ=0:=by simp only[cW,Χ,aY];rfl
 rw[Ξ,iF rfl];have yf:=da.later (κ.ext.trans lr);refine V.here (x:=one _) (m:=0) (nt:=84) ?_ ((ψ.put (a:=.z (.int .u64 0)) rfl (.z _)).gn η jx) _ rfl;refine V.b6 (γ _ _ _) ?_;refine W.part (A:=[]) Ρ [4,5] [] rfl λΕ ζ=>?_;(try simp);(repeat (rw[Ο];simp[]));(try simp[]);apply ζ;refine W.bJ ?_;(repeat (first|apply a3|apply wb|apply a4|apply wd|refine ai rfl ?_|refine aa rfl ?_|(refine bs λΕ ζ=>?_;simp;(repeat (rw[Ο];simp[]));apply ζ)));refine W.cr (.stop ?_);refine V.enable (γ _ _ _).here (Nat.succ_pos _) ⟨⟨rfl,rfl,by simp[Frame.enter],rfl⟩,uw,⟨_,rfl⟩,rfl,rfl,rfl⟩ ?_;rw[Ax];refine V.b6 (γ _ _ _) ?_;refine W.bJ ?_;refine W.cr ?_;refine fw [0] [1,2] ?_;refine W.stop ?_;refine V.conv (γ _ _ _).here (sp:=sp) δ.spec (by rw[b7];exact id) ⟨rfl,rfl,by simp[Frame.enter],rfl⟩ rfl rfl rfl Im uy Io rfl (λξ w ω bE=>⟨_,bE.cP⟩) (λφ ξ ν=>?_);unfold iv;rw[kA];refine V.Cc δ.rel rfl (sp:=sp) δ.spec b7 (.inr rfl) ⟨⟨rfl,rfl,by simp[Frame.enter],rfl⟩,Ev,⟨_,rfl⟩,rfl,rfl,rfl⟩ λbN bT H1 t1 gx fL gT eL κ ψ bw dm fJ mB uf Iy Iz IA=>?_;rw[g6];obtain rfl:bT=[]:=dG.1 ψ.holds.len;have Κ:=yf bN H1 gx fL gT eL κ.ext ψ.holds bw dm fJ mB uf Iy Iz IA;refine V.here (x:=one _) (S:=fj) (B:=[]) (σ:=[]) (m:=0) (nt:=84) ?_ (ψ.none η) _ rfl;refine V.b6 (γ _ _ _) ?_;refine W.bJ ?_;(repeat (first|apply a3|apply wb|apply a4|apply wd|refine ai rfl ?_|refine aa rfl ?_|(refine bs λΕ ζ=>?_;simp;(repeat (rw[Ο];simp[]));apply ζ)));exact .stop (OI δ Κ)
theorem YL {a b d:Nat} (h:a<=b) (J:b<7):a<8/\a<7:=R
theorem YM {a b:Nat} (h:a<b):¬b=0:=R
theorem YN (δ:mf x s sp) (da:rM Q mn x c rest S H s n sp) {φ:Nat} {ξ:aS}:uC Q mn x c rest S H s (.par n 0 .w3) (some (φ,ξ)) 1 (.code (dV [0,1,1,1,1,1,0,1,1,1,0] nP)::.code (dV [0,1,1,1,1,1,0,1,1,1,1] nP)::.inBlock 1::wq) [(0,.z (ptr s 0)),(5,.z (.bool false))]:=by
 letI:bn:=e1;have γ:=δ.seq;have woken:∀v,uC Q mn x c rest S H s (.par n 0 .w4) v 1 (.code (dV [0,1,1,1,1,1,0,1,1,1,1] nP)::.inBlock 1::wq) [(0,.z (ptr s 0))]:=λv=>YK δ da;refine V.b6 (γ _ _ _) ?_;unfold nP AN;refine W.cr ?_;refine fw [0,1,2,3] [4] ?_;refine W.stop ?_;refine V.XK (γ _ _ _).here (sp:=sp) δ.spec (by rw[b7];exact id) (vs:=[ptr s 1,.bool false]) rfl (λbm jo=>by rw[Ay jo];exact δ.still bm jo) ⟨⟨rfl,rfl,by simp[Frame.enter],rfl⟩,Yg,⟨_,rfl⟩,rfl,rfl,rfl⟩ (λg8 ξ ν h=>by rw[b7];exact h) (λg8 ξ ν h=>?_);refine⟨{ξ with cO:=ξ.cO-1},.par n 0 .w4,rfl,rfl,⟨rfl,rfl,rfl⟩,by rw[b7];exact .wake h,λh0 eD=>?_⟩;rw[g6];refine V.b6 (γ _ _ _) ?_;refine W.bJ ?_;refine W.forget [(0,.z (ptr s 0))] η (.stop ?_);exact woken _
theorem YO (δ:mf x s sp):∀(N φ:Nat) (ξ:aS) (S:aJ) (H:χ),φ<N->ξ.toSpec=sp->0<ξ.cnt->ξ.cnt<=ξ.top->ξ.wt=0->rM Q mn x c rest S H s n sp->
  uC Q mn x c rest S H s (.par n 0 .add) (some (φ,ξ)) 1 (.code (dV [0,1] nP)::.inBlock 1::wq) [(0,.z (ptr s 0)),(2,.z (.int .u64 (cW ξ)))]:=by
 letI:bn:=e1;have γ:=δ.seq;intro N
 induction N with
 | zero=>intro φ ξ S H h;exact absurd h (Nat.not_lt_zero _)
 | succ N AG=>
  intro φ ξ S H cm ω B5 OK oO da;have gP:=EG δ ω;obtain⟨k1,cN⟩:=YL (d:=0) OK gP;have f1:=ED ξ.cnt k1 0 bu;have f2:=EE ξ.cnt k1 0 bu;have f3:=EF ξ.cnt k1 0 bu;have f4:=YG ξ.cnt k1;have y':cW ξ=ij ξ.cnt 0:=by rw[uB,oO]
  have bA:¬ξ.cnt=0:=YM B5
  have D':¬(ξ.cnt:Int)=0:=λh=>bA (by exact_mod_cast h);rw[<-y'] at f1 f2 f3 f4;have sleep:∀(S H) (φ:Nat) (ξ:aS),rM Q mn x c rest S H s n sp->uC Q mn x c rest S H s (.par n 0 .w3) (some (φ,ξ)) 1 (.code (dV [0,1,1,1,1,1,0,1,1,1,0] nP)::.code (dV [0,1,1,1,1,1,0,1,1,1,1] nP)::.inBlock 1::wq) [(0,.z (ptr s 0)),(5,.z (.bool false))]:=λS H φ ξ da=>YN δ da;have mj:∀(S H v),rM Q mn x c rest S H s n sp->uC Q mn x c rest S H s (.par n 0 .mj) v 1 (.code (dV [0,1] nP)::.inBlock 1::wq) [(0,.z (ptr s 0)),(2,.z (.int .u64 0))]:=λS H v da=>OJ δ da;refine V.b6 (γ _ _ _) ?_;unfold nP AN;(repeat (first|apply a3|apply wb|apply a4|apply wd|refine ai rfl ?_|refine aa rfl ?_|(refine bs λΕ ζ=>?_;simp;(repeat (rw[Ο];simp[f2,f3,bA,D']));apply ζ)));refine W.cr ?_;refine W.part (A:=[]) Ρ [0,1,2,3,4,5] [6] rfl λΕ ζ=>?_;(try simp);(repeat (rw[Ο];simp[f4]));(try simp[f4]);apply ζ;refine W.stop ?_;refine V.call (γ _ _ _) ⟨rfl,rfl,by simp[Frame.enter],rfl⟩ rfl rfl rfl ⟨_,Tryz.func179,rfl,rfl⟩ λbN bT H1 t1 o7 κ ψ hv=>?_;obtain rfl:=m1 (l:=[ptr s 0,.int .u64 (cW ξ),.int .u64 (ij ξ.cnt 1)]) hv;obtain rfl:bT=[]:=dG.1 ψ.holds.len;rintro y rfl;refine YI δ id ψ.holds (λg8 gh ν hv c9 bR lr jx=>?_) (λg8 gh ν hv=>?_)
  ·have pY:=ν.view φ ξ pf
   have av:g8<N:=by
    rcases Nat.lt_or_ge g8 φ with h|h
    ·exact Nat.lt_of_lt_of_le h (Nat.le_of_lt_succ cm)
    ·exact absurd (by rw[pY.2 (Nat.le_antisymm pY.1 h)]) hv
   have yf:=da.later (κ.ext.trans lr);rw[iF rfl];refine V.here (x:=one _) (m:=0) (nt:=84) ?_ ((ψ.put (a:=.z (.bool false)) rfl (.z _)).gn η jx) _ rfl;refine V.b6 (γ _ _ _) ?_;refine W.bJ ?_;refine aa rfl ?_
   repeat first|apply a3|apply wb|apply a4|apply wd
   refine W.inLoop ?_;refine W.forget [(0,.z (ptr s 0))] η ?_
   repeat first|apply a3|apply wb|apply a4|apply wd
   refine W.cr ?_;refine fw [0,1,2] [3,4] ?_;refine W.stop ?_;refine V.call (γ _ _ _) ⟨rfl,rfl,by simp[Frame.enter],rfl⟩ rfl rfl rfl ⟨_,Tryz.func168,rfl,rfl⟩ λkQ kR jC t3 IB hK e9 sP=>?_;obtain rfl:=m1 (l:=[ptr s 0]) sP;obtain rfl:kR=[]:=dG.1 e9.holds.len;rintro y rfl;refine Iw δ id e9.holds λh0 fT ea=>?_;have e3:=ea.jE.sY;rw[b7] at e3;obtain⟨dK,dq,ga,tQ,tR⟩:=e3.add n 0 rfl;have xT:=ea.view g8 gh pf;by_cases aj:fT.cnt=0
   ·refine .inr ⟨.par n 0 .mj,.thru aj,λyb YP j2 j3 ox k4=>?_⟩;have Ξ:cW fT=0:=by simp only[cW,dK,aj];rfl
    rw[Ξ,iF rfl];have wu:=yf.later (hK.ext.trans ox);refine V.here (x:=one _) (m:=0) (nt:=84) ?_ ((e9.put (a:=.z (.int .u64 0)) rfl (.z _)).gn η k4) _ rfl;refine V.b6 (γ _ _ _) ?_;refine W.part (A:=[]) Ρ [4] [] rfl λΕ ζ=>?_;(try simp);(repeat (rw[Ο];simp[]));(try simp[]);apply ζ;refine W.bJ ?_;refine W.forget [(0,.z (ptr s 0)),(2,.z (.int .u64 0))] η (.stop ?_);exact mj _ _ _ wu
   ·refine .inl λj2 j3 ox k4=>?_;rw[iF rfl];have wu:=yf.later (hK.ext.trans ox);refine V.here (x:=one _) (m:=0) (nt:=84) ?_ ((e9.put (a:=.z (.int .u64 (cW fT))) rfl (.z _)).gn η k4) _ rfl;refine V.b6 (γ _ _ _) ?_;refine W.part (A:=[]) Ρ [4] [] rfl λΕ ζ=>?_;(try simp);(repeat (rw[Ο];simp[]));(try simp[]);apply ζ;refine W.bJ ?_;refine W.forget [(0,.z (ptr s 0)),(2,.z (.int .u64 (cW fT)))] η (.stop ?_);exact AG h0 fT j2 j3 (Nat.lt_of_le_of_lt xT.1 av) ea.spec (Nat.pos_of_ne_zero aj) e3.cnt dK wu
  ·have iW:=ν.jE.sY;rw[b7] at iW;obtain⟨dK,dq,ga,tQ,tR⟩:=iW.add n 0 rfl;have jU:gh.cnt=ξ.cnt:=by rw[y',uB,dK] at hv;simp only[ij] at hv;omega
   refine⟨{gh with wt:=1},.par n 0 .w3,?_,rfl,⟨rfl,rfl,rfl⟩,.Ky (by rw[jU];exact B5),λh0 iΘ c9 bR lr jx=>?_⟩
   ·rw[uB];simp only[jU]
   rw[iF rfl];have yf:=da.later (κ.ext.trans lr);refine V.here (x:=one _) (m:=0) (nt:=84) ?_ ((ψ.put (a:=.z (.bool true)) rfl (.z _)).gn η jx) _ rfl;refine V.b6 (γ _ _ _) ?_;refine W.bJ ?_;refine ai rfl ?_;(repeat (first|apply a3|apply wb|apply a4|apply wd|refine ai rfl ?_|refine aa rfl ?_|(refine bs λΕ ζ=>?_;simp;(repeat (rw[Ο];simp[]));apply ζ)));refine W.cr ?_;refine fw [0,1,2] [3,4] ?_;refine W.stop ?_;refine V.conv (γ _ _ _).here (sp:=sp) δ.spec (by rw[b7];exact id) ⟨rfl,rfl,by simp[Frame.enter],rfl⟩ rfl rfl rfl Oh uy Oi rfl (λξ w ω bE=>⟨_,bE.Χ⟩) (λφ ξ ν=>?_);unfold iv;rw[kA];refine V.XH δ.rel b7 η ⟨⟨rfl,rfl,by simp[Frame.enter],rfl⟩,Ya,⟨_,rfl⟩,rfl,rfl,rfl⟩ ?_;refine V.b6 (γ _ _ _) ?_;refine W.bJ ?_;(repeat (first|apply a3|apply wb|apply a4|apply wd|refine ai rfl ?_|refine aa rfl ?_|(refine bs λΕ ζ=>?_;simp;(repeat (rw[Ο];simp[f1]));apply ζ)));refine W.forget [(0,.z (ptr s 0)),(5,.z (.bool false))] η (.stop ?_);exact sleep _ _ _ _ yf
theorem YQ (δ:mf x s sp) (Α:Holds S B σ H) (da:rM Q mn x c rest S H s n sp) :
  cx Tryz.prog Q mn (bx x s (.par n 0 .add) v 0) (Frame.enter Tryz.prog 146 #[ptr s 0] .normal) (c::rest) H:=by
 letI:bn:=e1;have γ:=δ.seq;refine V.qo (z:=one _) (vs:=[ptr s 0]) Tryz.func146 rfl Α (by simp[Tryz.ntmps146]) ?_ _ rfl;refine V.b6 (γ _ _ _) ?_;(repeat (first|apply a3|apply wb|apply a4|apply wd|refine ai rfl ?_|refine aa rfl ?_|(refine bs λΕ ζ=>?_;simp;(repeat (rw[Ο];simp[]));apply ζ)));refine W.cr (.stop ?_);refine V.disable (γ _ _ _).here ⟨⟨rfl,rfl,by simp[Frame.enter],rfl⟩,AA,⟨_,rfl⟩,rfl,rfl,rfl⟩ ?_;rw[Aw];refine V.b6 (γ _ _ _) ?_;refine W.bJ ?_
 repeat first|apply a3|apply wb|apply a4|apply wd
 refine W.loop ?_
 repeat first|apply a3|apply wb|apply a4|apply wd
 refine W.cr ?_;refine fw [0,1,2] [3,4] ?_;refine W.stop ?_;refine V.call (γ _ _ _) ⟨rfl,rfl,by simp[Frame.enter],rfl⟩ rfl rfl rfl ⟨_,Tryz.func168,rfl,rfl⟩ λkQ kR jC t3 IB hK e9 sP=>?_;obtain rfl:=m1 (l:=[ptr s 0]) sP;obtain rfl:kR=[]:=dG.1 e9.holds.len;rintro y rfl;refine Iw δ id e9.holds λh0 fT ea=>?_;have e3:=ea.jE.sY;rw[b7] at e3;obtain⟨dK,dq,ga,tQ,tR⟩:=e3.add n 0 rfl;by_cases aj:fT.cnt=0
 ·refine .inr ⟨.par n 0 .mj,.thru aj,λyb YP j2 j3 ox k4=>?_⟩;have Ξ:cW fT=0:=by simp only[cW,dK,aj];rfl
  rw[Ξ,iF rfl];have wu:=da.later (hK.ext.trans ox);refine V.here (x:=one _) (m:=0) (nt:=84) ?_ ((e9.put (a:=.z (.int .u64 0)) rfl (.z _)).gn η k4) _ rfl;refine V.b6 (γ _ _ _) ?_;refine W.part (A:=[]) Ρ [4] [] rfl λΕ ζ=>?_;(try simp);(repeat (rw[Ο];simp[]));(try simp[]);apply ζ;refine W.bJ ?_;refine W.forget [(0,.z (ptr s 0)),(2,.z (.int .u64 0))] η (.stop ?_);exact OJ δ wu
 ·refine .inl λj2 j3 ox k4=>?_;rw[iF rfl];have wu:=da.later (hK.ext.trans ox);refine V.here (x:=one _) (m:=0) (nt:=84) ?_ ((e9.put (a:=.z (.int .u64 (cW fT))) rfl (.z _)).gn η k4) _ rfl;refine V.b6 (γ _ _ _) ?_;refine W.part (A:=[]) Ρ [4] [] rfl λΕ ζ=>?_;(try simp);(repeat (rw[Ο];simp[]));(try simp[]);apply ζ;refine W.bJ ?_;refine W.forget [(0,.z (ptr s 0)),(2,.z (.int .u64 (cW fT)))] η (.stop ?_);exact YO δ (h0+1) h0 fT j2 j3 (Nat.lt_succ_self _) ea.spec (Nat.pos_of_ne_zero aj) e3.cnt dK wu
end
end Go.TL
namespace Go.TL
open Go.Conc Go.Proofs
open Go.ConcN (sumTo upd sumTo_upd upd_ne upd_same sumTo_congr le_sumTo)
variable [bn]
def cK.yg:cK->θ->Prop
 | .ok a,b=>a=b
 | .b' p r,b=>p/\r.yg b
 | .bad,_=>False
def jk (P:Program) {α:Type} (s:Sem α) (a:α):Prop:=∀w,s.run P w=.ok a w/\∀es,s.events P w es=es
section
variable {P:Program} {T:bb} {α β:Type}
theorem jk.pure (a:α):jk P (Pure.pure a) a:=λw=>⟨η,λes=>η⟩
theorem jk.bind {s:Sem α} {f:α->Sem β} {a:α} {b:β} (h:jk P s a) (k:jk P (f a) b):jk P (s >>= f) b:=λw=>⟨by simp[(h w).1,(k w).1,Result.andThen],λes=>by simp[(h w).1,(h w).2,(k w).2,Result.evThen]⟩
theorem jk.program:jk P Go.program P:=λw=>⟨η,λes=>η⟩
theorem jk.underlying {t:TypeId} {d:TypeDesc} (h:P.underlying t=some d):jk P (Go.underlying t) d:=λw=>⟨run_underlying h w,λes=>η⟩
theorem jk.sizeOf {t:TypeId} {i:TypeInfo} (hi:P.info? t=some i):jk P (Go.sizeOf t) i.size:=by
 unfold Go.sizeOf Go.typeInfo;refine jk.bind (jk.bind .program ?_) (jk.pure _);show jk P (match P.info? t with|some i=>Pure.pure i|none=>_) i;rw[hi];exact .pure _
theorem YR {op:BinOp} {ty:TypeId} {p q:Operand} {x y v:Value} (h:(so op x y).yg (.z v)):jk P (do eqGuard op ty p q x y;binOp op ty x y) v:=by
 unfold so at h;split at h
 case h_25=>exact h.elim
 case h_1=>
  obtain⟨J,U⟩:=h;cases U;have dg:¬(_:Int)<0:=Int.not_lt.2 J;simp only[eqGuard,binOp,Op.shift,dg,if_false];exact .pure _
 case h_2=>
  obtain⟨J,U⟩:=h;cases U;have dg:¬(_:Int)<0:=Int.not_lt.2 J;simp only[eqGuard,binOp,Op.shift,dg,if_false];exact .pure _
 case h_6=>
  split at h
  ·rename_i e;subst e;obtain⟨J,U⟩:=h;cases U;simp only[eqGuard,binOp,Op.intDiv,J,if_false,ne_eq,not_true_eq_false];exact .pure _
  ·exact h.elim
 case h_7=>
  split at h
  ·rename_i e;subst e;obtain⟨J,U⟩:=h;cases U;simp only[eqGuard,binOp,Op.intDiv,J,if_false,ne_eq,not_true_eq_false];exact .pure _
  ·exact h.elim
 case h_18=>
  obtain⟨J,U⟩:=h;cases U;have dg:¬((_:Int) > IntKind.i64.max):=Int.not_lt.2 J;simp only[eqGuard,binOp,Op.stringOp,dg,if_false];exact .pure _
 all_goals first
  |(cases h;exact .pure _)
  |(split at h
    ·rename_i e;subst e;cases h;simp only[eqGuard,binOp,Op.intArith,Op.intBits,Op.intCmp,ne_eq,not_true_eq_false,if_false];exact .pure _
    ·exact h.elim)
def yh (T:bb) (env:Ω) (o:Oper):cK:=match o.op with
 | .move x=>.ok (aU env x)
 | .assign x=>.ok (aU env x)
 | .pick c a b=>xH (aU env c) (aU env a) (aU env b)
 | .binOp op _ x y _=>match aU env x,aU env y with
  | .z a,.z b=>so op a b
  | _,_=>.bad
 | .unOp op _ x=>xo op (aU env x)
 | .convert s d x=>xy T s d (aU env x)
 | .nilCheck x=>match aU env x with
  | .z (.pointer (some a))=>.ok (.z (.pointer (some a)))
  | _=>.bad
 | .fieldAddr ty x f=>match aU env x with
  | .z (.pointer (some ⟨b,o',none⟩))=>match gA T ty f with|some (o,_)=>.ok (.z (.pointer (some ⟨b,o'+o,none⟩)))|none=>.bad
  | _=>.bad
 | _=>.bad
theorem YS (Κ:bV P T) {env:Ω} {o:Oper} {v:Value} (h:(yh T env o).yg (.z v)) {ρ:Operand->Value} (nQ:∀y u,aU env y=.z u->ρ y=u):jk P (execOp ρ o) (.value v):=by
 have val:∀{s:Sem Value} {u:Value},jk P s u->jk P (do Pure.pure (Next.value (<-s))) (.value u):=λν=>.bind ν (.pure _);unfold yh at h;unfold execOp;split at h<;>rename_i ω<;>first|(rw[ω];simp only)|exact h.elim
 ·rw[nQ _ _ h];exact .pure _
 ·rw[nQ _ _ h];exact .pure _
 ·rename_i c a b;unfold xH at h;split at h
  ·rename_i bv δ;rw[nQ _ _ δ];refine jk.bind (a:=bv) (jk.pure _) ?_;split at h
   ·rename_i y z Ι Τ;cases h;rw[nQ _ _ Ι,nQ _ _ Τ];cases bv<;>exact .pure _
   ·cases bv with
    | true=>rw[nQ a v h];exact .pure _
    | false=>rw[nQ b v h];exact .pure _
  ·exact h.elim
 ·split at h
  ·rename_i x y γ Ι;rw[nQ _ _ γ,nQ _ _ Ι];exact val (YR h)
  ·exact h.elim
 ·unfold xo at h;split at h
  ·rename_i bv hb;rw[nQ _ _ hb];split at h
   ·cases h;exact val (.pure _)
   ·exact h.elim
  ·rename_i k n hb;rw[nQ _ _ hb];split at h
   ·cases h;exact val (.pure _)
   ·exact h.elim
  ·exact h.elim
 ·unfold xy at h;split at h
  ·rename_i i j hi ε;split at h
   ·rename_i k kk n hu γ;cases h;rw[nQ _ _ γ];refine val ?_;unfold convert;refine .bind (.underlying (Κ _ _ hi).1.1) (.bind (.underlying (Κ _ _ ε).1.1) ?_);rw[hu];exact .pure _
   ·exact h.elim
  ·exact h.elim
 ·split at h
  ·rename_i a γ;cases h;rw[nQ _ _ γ];exact .pure _
  ·exact h.elim
 ·split at h
  ·rename_i b o' γ;rw[nQ _ _ γ];split at h
   ·rename_i dJ zA Υ;cases h;refine val ?_;unfold gA at Υ;split at Υ<;>try cases Υ
    rename_i i hi;split at Υ<;>try cases Υ
    rename_i dh hu;split at Υ<;>try cases Υ
    rename_i x γ;split at Υ<;>try cases Υ
    rename_i bC mH;split at Υ<;>try cases Υ
    rename_i hz;unfold Instr.fieldAt;refine .bind (.underlying (Κ _ _ hi).1.1) ?_;rw[hu];simp only[γ];refine .bind (a:=⟨b,o',none⟩) (.pure _) ?_;obtain⟨f,lp,pW,_⟩:=(Κ _ _ mH).2;refine .bind (a:=⟨b,o'+x.offset,none⟩) ?_ (.pure _);unfold fieldPlace;refine .bind (.sizeOf lp) ?_;rw[pW,if_neg hz,tL];exact .pure _
   ·exact h.elim
  ·exact h.elim
end
theorem YT (vs:List Value) {nt:Nat} (Ζ:vs.length<=nt):du fj [] [] (entry 0 (vs.map θ.z)) (vs.toArray++Array.replicate (nt-vs.length) undef):=by
 have ι:fO fj [] [] (vs.map θ.z) vs.toArray:=⟨η,λi a v J U=>by
  simp only[List.getElem?_map,List.getElem?_toArray] at J U;rw[U] at J;cases J;exact .z v⟩
 have:=(fN.enter (yd χ.empty) (m:=0) (nt:=nt) ι (Nat.le_refl _) (by simpa using Ζ)).cA;simpa using this
def IC (P:Program) (mn:Bool) (dC:Goroutine->Prop):Prop:=∀g g',iU g->(∀w,stepG P mn g w=.go g' w #[])->dC g'->dC g
def af (dC:Goroutine->Prop) (b:Frame) (cs:List Frame) (nt:Nat) (k:List Item) (env:Ω):Prop:=∀t:Array Value,t.size=nt->du fj [] [] env t->dC (Go.Conc.G (aA b t k) cs)
def m5 (T:bb) (nt:Nat) (ops:Array Oper):List Nat->Ω->(Ω->Prop)->Prop
 | [],env,K=>K env
 | i::is,env,K=>g2 ops[i]? λo=>ik nt o=true/\g2 (fP env ops o) λw=>
   j1 w (m5 T nt ops is (cj o env .cH) K) (∃v,(yh T env o).yg (.z v)/\m5 T nt ops is (cj o env (.z v)) K)
theorem wv {T:bb} {nt:Nat} {ops:Array Oper} {env:Ω} {K:Ω->Prop}:m5 T nt ops [] env K=K env:=Eq.trans rfl rfl
def wx (T:bb) (nt:Nat) (ops:Array Oper) (is:List Nat) (o:Oper) (env:Ω) (K:Ω->Prop):cK->Prop
 | .ok (.z v)=>m5 T nt ops is (cj o env (.z v)) K
 | .b' p (.ok (.z v))=>p/\m5 T nt ops is (cj o env (.z v)) K
 | _=>False
theorem YU {T:bb} {nt:Nat} {ops:Array Oper} {is:List Nat} {o:Oper} {env:Ω} {K:Ω->Prop} {v:Value}:wx T nt ops is o env K (.ok (.z v))=m5 T nt ops is (cj o env (.z v)) K:=Eq.trans rfl rfl
theorem YV {T:bb} {nt:Nat} {ops:Array Oper} {is:List Nat} {o:Oper} {env:Ω} {K:Ω->Prop} {v:Value} {p:Prop}:wx T nt ops is o env K (.b' p (.ok (.z v)))=(p/\m5 T nt ops is (cj o env (.z v)) K):=Eq.trans rfl rfl
theorem YW {T:bb} {nt:Nat} {ops:Array Oper} {is:List Nat} {o:Oper} {env:Ω} {K:Ω->Prop} {r r':cK} (h:r=r'):wx T nt ops is o env K r=wx T nt ops is o env K r':=by rw[h]
theorem YX {T:bb} {nt:Nat} {ops:Array Oper} {is:List Nat} {o:Oper} {env:Ω} {K:Ω->Prop} {r:cK} (h:wx T nt ops is o env K r):∃v,r.yg (.z v)/\m5 T nt ops is (cj o env (.z v)) K:=by
 unfold wx at h;split at h
 ·exact⟨_,rfl,h⟩
 ·exact⟨_,⟨h.1,rfl⟩,h.2⟩
 ·exact h.elim
theorem g9 {T:bb} {nt:Nat} {ops:Array Oper} {i:Nat} {is:List Nat} {env:Ω} {K:Ω->Prop} (h:g2 ops[i]? λo=>ik nt o=true/\g2 (fP env ops o) λw=>j1 w (m5 T nt ops is (cj o env .cH) K) (wx T nt ops is o env K (yh T env o))):m5 T nt ops (i::is) env K:=by
 unfold m5;unfold g2 at h ⊢;split at h
 ·exact h.elim
 rename_i o ω;refine⟨h.1,?_⟩
 replace h:=h.2
 split at h
 ·exact h.elim
 rename_i w hw;exact⟨h.1,λe=>YX (h.2 e)⟩
section
variable {P:Program} {T:bb} {mn:Bool} {dC:Goroutine->Prop} {b:Frame} {cs:List Frame} {nt:Nat} {k:List Item} {env:Ω} {ops:Array Oper} {i:Nat} {rest:List Nat} {op:Oper}
variable (gE:IC P mn dC) (hb:b.mode=.run)
include gE hb
theorem af.to {ag:List Item} (ν:∀t w,stepG.exec P mn true (aA b t k) cs none w=.go (Go.Conc.G (aA b t ag) cs) w #[]) (h:af dC b cs nt ag env):af dC b cs nt k env:=
 λt J U=>gE _ _ ⟨rfl,rfl⟩ (λw=>(jy hb w).trans (ν t w)) (h t J U)
theorem af.skip (h:af dC b cs nt k env):af dC b cs nt (.code .skip::k) env:=.to gE hb (λ_ _=>rfl) h
theorem af.inBlock {l:Nat} (h:af dC b cs nt k env):af dC b cs nt (.inBlock l::k) env:=.to gE hb (λ_ _=>rfl) h
theorem af.seq {a c:Code} (h:af dC b cs nt (.code a::.code c::k) env):af dC b cs nt (.code (.seq a c)::k) env:=.to gE hb (λ_ _=>rfl) h
theorem af.block {l:Nat} {c:Code} (h:af dC b cs nt (.code c::.inBlock l::k) env):af dC b cs nt (.code (.block l c)::k) env:=.to gE hb (λ_ _=>rfl) h
theorem af.loop {c:Code} (h:af dC b cs nt (.code c::.inLoop c::k) env):af dC b cs nt (.code (.loop c)::k) env:=.to gE hb (λ_ _=>rfl) h
theorem af.inLoop {c:Code} (h:af dC b cs nt (.code c::.inLoop c::k) env):af dC b cs nt (.inLoop c::k) env:=.to gE hb (λ_ _=>rfl) h
theorem af.cr {id:Nat} {ops:Array Oper} (h:af dC b cs nt (.inRegion ops (idx ops.size [])::k) env):af dC b cs nt (.code (.region id ops false)::k) env:=.to gE hb (λ_ _=>by rw[idx_eq];rfl) h
theorem af.bJ {ops:Array Oper} (h:af dC b cs nt k env):af dC b cs nt (.inRegion ops []::k) env:=.to gE hb (λ_ _=>rfl) h
theorem af.exit {l:Nat} {ag:List Item} (he:exitTo l k=some ag) (h:af dC b cs nt ag env):af dC b cs nt (.code (.exit l)::k) env:=by
 refine .to gE hb (λt w=>?_) h;unfold stepG.exec;simp only[aA,he,Option.elim];rfl
theorem af.cond {c:Operand} {a e:Code} {v:Bool} (δ:aU env c=.z (.bool v)) (h:af dC b cs nt (.code (if v then a else e)::k) env):af dC b cs nt (.code (.cond c a e)::k) env:=by
 intro t J U;refine gE _ _ ⟨rfl,rfl⟩ (λw=>?_) (h t J U);rw[jy hb w];have aX:(aA b t (.code (.cond c a e)::k)).eval c=.bool v:=by rw[zq];exact Ej U δ
 unfold stepG.exec;simp only[aA] at aX ⊢;rw[aX];rfl
theorem af.m6 {c:Operand} {a e:Code} (δ:aU env c=.z (.bool true)) (h:af dC b cs nt (.code a::k) env):af dC b cs nt (.code (.cond c a e)::k) env:=.cond gE hb δ h
theorem af.m7 {c:Operand} {a e:Code} (δ:aU env c=.z (.bool false)) (h:af dC b cs nt (.code e::k) env):af dC b cs nt (.code (.cond c a e)::k) env:=.cond gE hb δ h
theorem ID {t:Array Value} (h:du fj [] [] env t) (hd:ik nt op=true) (Ν:t.size=nt) {a:θ} {v:Value} (κ:ay fj [] [] a v):(put op t v).size=nt/\du fj [] [] (cj op env a) (put op t v):=⟨(ra h hd Ν κ).2,(ra h hd Ν κ).1⟩
theorem af.unwanted (ω:ops[i]?=some op) (hw:fP env ops op=some false) (hd:ik nt op=true) (h:af dC b cs nt (.inRegion ops rest::k) (cj op env .cH)):af dC b cs nt (.inRegion ops (i::rest)::k) env:=by
 intro t J U;obtain⟨s1,s2⟩:=ID (b:=b) gE hb U hd J (a:=.cH) (v:=undef) (.cH _);refine gE _ _ ⟨rfl,rfl⟩ (λw=>?_) (h _ s1 s2);rw[jy hb,<-iF ω];have vc:((ops[i]?).map (Region.wanted · (yielded ops t))).getD false=false:=by simp[ω,ko U hw]
 unfold stepG.exec;simp only[aA,vc];rfl
theorem af.opn (Κ:bV P T) (cn:b.roundOf=none) (ς:b.kind≠.early) (ω:ops[i]?=some op) (hw:fP env ops op=some true) (hd:ik nt op=true) {v:Value} (hv:(yh T env op).yg (.z v)) (h:af dC b cs nt (.inRegion ops rest::k) (cj op env (.z v))):af dC b cs nt (.inRegion ops (i::rest)::k) env:=by
 intro t J U;obtain⟨s1,s2⟩:=ID (b:=b) gE hb U hd J (a:=.z v) (v:=v) (.z v);refine gE _ _ ⟨rfl,rfl⟩ (λw=>?_) (h _ s1 s2);have ν:=YS Κ hv (ρ:=bp t) λy u Ι=>Ej U Ι;rw[gO hb cn,gO hb cn,<-uq,stepG_value (a:=⟨t,b.defers⟩) ω (ko U hw) ς (by rw[md];exact(ν w).1)];unfold listed;rw[md,(ν w).2,seen_none]
theorem af.part (Κ:bV P T) (cn:b.roundOf=none) (ς:b.kind≠.early) (is kp:List Nat) {l:List Nat} (ο:l=is++kp) (h:∀Ε:Ω->Prop,(∀env,af dC b cs nt (.inRegion ops kp::k) env->Ε env)->m5 T nt ops is env Ε):af dC b cs nt (.inRegion ops l::k) env:=by
 subst ο;have key:∀(is:List Nat) (env:Ω),m5 T nt ops is env (λenv=>af dC b cs nt (.inRegion ops kp::k) env)->af dC b cs nt (.inRegion ops (is++kp)::k) env:=by
  intro is
  induction is with
  | nil=>intro env h;exact h
  | cons i is Β=>
   intro env h;unfold m5 g2 at h;split at h
   ·exact h.elim
   rename_i o ω;obtain⟨hd,h⟩:=h;split at h
   ·exact h.elim
   rename_i w hw;cases w with
   | false=>exact .unwanted gE hb ω hw hd (Β _ (h.1 rfl))
   | true=>
    obtain⟨v,J,U⟩:=h.2 rfl;exact .opn gE hb Κ cn ς ω hw hd J (Β _ U)
 exact key is env (h _ λ_ h=>h)
theorem af.region (Κ:bV P T) (cn:b.roundOf=none) (ς:b.kind≠.early) {id:Nat} (h:∀Ε:Ω->Prop,(∀env,af dC b cs nt k env->Ε env)->m5 T nt ops (idx ops.size []) env Ε):af dC b cs nt (.code (.region id ops false)::k) env:=by
 refine .cr gE hb (.part gE hb Κ cn ς (idx ops.size []) [] η λΕ ζ=>h Ε λenv Φ=>ζ env (.bJ gE hb Φ))
theorem af.Es (bW:m0 b ops i op) (hw:fP env ops op=some true) (hd:ik nt op=true) {f:FuncId} {args:Array Operand} {eh:Array TypeId} (Μ:op.op=.call ⟨.value (.func f),args,eh⟩) {v:Value} (he:Entry P f (λ_=>pure v)) (h:af dC b cs nt (.inRegion ops rest::k) (cj op env (.z v))):af dC b cs nt (.inRegion ops (i::rest)::k) env:=by
 intro t J U;obtain⟨s1,s2⟩:=ID (b:=b) gE hb U hd J (a:=.z v) (v:=v) (.z v);exact gE _ _ ⟨rfl,rfl⟩ (λw=>Ei he bW (ko U hw) Μ (vs:=args.map (bp t)) rfl η η η) (h _ s1 s2)
theorem af.Ib (bW:m0 b ops i op) (hw:fP env ops op=some true) (rb:op.dst=none) {f:FuncId} {eh:Array TypeId} (Μ:op.op=.defer ⟨.value (.func f),#[],eh⟩)
  (h:af dC {b with defers:=Go.Conc.dcall f #[]::b.defers} cs nt (.inRegion ops rest::k) env):af dC b cs nt (.inRegion ops (i::rest)::k) env:=by
 intro t J U;refine gE _ (Go.Conc.G (aA {b with defers:=Go.Conc.dcall f #[]::b.defers} t (.inRegion ops rest::k)) cs) ⟨rfl,rfl⟩ (λw=>?_) (h t J U);rw[gO bW.run bW.ro,stepG_defer (a:=⟨t,b.defers⟩) bW.op (ko U hw) bW.kd Μ];have:(⟨t,Go.Conc.dcall f #[]::b.defers⟩:_root_.Go.Act).put op.dst undef=⟨t,Go.Conc.dcall f #[]::b.defers⟩:=by rw[rb];rfl
 simp only[Array.map_empty,List.map_toArray,List.map_nil];rw[this,gO (b:={b with defers:=Go.Conc.dcall f #[]::b.defers}) bW.run bW.ro];rfl
theorem af.call (bW:m0 b ops i op) (hw:fP env ops op=some true) {args:Array Operand} {eh:Array TypeId} {g:FuncId} (Μ:op.op=.call ⟨.value (.func g),args,eh⟩) {vs:List Value} (qm:As env args vs) {fn:Func} {body:Code} (bM:P.funcs[g]?=some fn) (vB:(fn.name == "runtime.NumGoroutine")=false) (nB:fn.body=some body) (Ζ:vs.length<=fn.ntmps)
  (h:∀t:Array Value,t.size=nt->du fj [] [] env t->af dC (Frame.enter P g vs.toArray .normal) (aA b t (.inRegion ops (i::rest)::k)::cs) fn.ntmps [.code body] (entry 0 (vs.map θ.z))):af dC b cs nt (.inRegion ops (i::rest)::k) env:=by
 intro t J U;have a0:=h t J U (vs.toArray++Array.replicate (fn.ntmps-vs.length) undef) (by simp;omega) (YT vs Ζ);rw[show vs.toArray++Array.replicate (fn.ntmps-vs.length) undef=vs.toArray++Array.replicate (fn.ntmps-vs.toArray.size) undef by simp,<-qc bM nB] at a0;refine gE _ _ ⟨rfl,rfl⟩ (λw=>?_) a0;have lb:(fn.name == "runtime.NumGoroutine")=false:=vB;have Dr:fn.body.isNone=false:=by rw[nB];rfl
 have ι:(execOp (bp t) op).run P w=.ok (.enter g vs.toArray) w/\(execOp (bp t) op).events P w #[]=#[]:=by
  have e:execOp (bp t) op=callFunc g vs.toArray:=by
   unfold execOp;rw[Μ];have:args.map (bp t)=vs.toArray:=qm.bp U;simp only[resolve];rw[this];simp[Deferred.ofValue,Go.TL.bp,invoke]
  rw[e];unfold callFunc;have J:¬fn.name = "runtime.NumGoroutine" := by simpa using lb
  simp[bM,J,nB]
 rw[gO bW.run bW.ro,stepG_enter (a:=⟨t,b.defers⟩) bW.op (ko U hw) bW.kd (by rw[md];exact ι.1)];unfold listed;rw[md,ι.2,seen_none]
theorem af.sV (cn:b.roundOf=none) (eR:b.defers=[]) (gY:b.kind=.normal) {fn:Func} (bM:P.funcs[b.fn]?=some fn) {d:Nat} (e6:fn.results=#[.tmp d]) {v:Value} (hv:a9 env d=.z v) {c:Frame}
  (h:dC (Go.Conc.G (c.finish v) cs)):af dC b (c::cs) nt (.code .ret::k) env:=by
 intro t J U;have lQ:t.getD d undef=v:=by
  have:=U d;rw[hv] at this;generalize t.getD d undef=u at this;cases this;rfl
 refine gE _ (Go.Conc.G {aA b t (.code .ret::k) with mode:=.returning} (c::cs)) ⟨rfl,rfl⟩ (λw=>?_) (gE _ _ ⟨rfl,rfl⟩ (λw=>?_) h)
 ·rw[jy hb];unfold stepG.exec;simp only[aA,cn];rfl
 ·rw[gO hb cn,stepG_leave (a:=⟨t,b.defers⟩) gY eR bM (results_tmp e6 _ P w) (events_results_tmp e6 _ _),lQ]
theorem af.Er (cn:b.roundOf=none) (eR:b.defers=[]) (gY:b.kind=.normal) {fn:Func} (bM:P.funcs[b.fn]?=some fn) (e6:fn.results=#[]) {c:Frame}
  (h:dC (Go.Conc.G (c.finish (.tuple #[])) cs)):af dC b (c::cs) nt [] env:=by
 intro t J U;refine gE _ (Go.Conc.G {aA b t [] with mode:=.returning} (c::cs)) ⟨rfl,rfl⟩ (λw=>?_) (gE _ _ ⟨rfl,rfl⟩ (λw=>?_) h)
 ·rw[jy hb];unfold stepG.exec;simp only[aA,cn];rfl
 ·rw[gO hb cn,stepG_leave (a:=⟨t,b.defers⟩) gY eR bM (Go.results_none e6 _ P w) (Go.Conc.events_results_none e6 _ _)]
end
attribute [congr] YW
attribute [simp] wv YU YV yh
def kB (P:Program) (Q:Value->Prop) (mn:Bool) (y:aZ) (g:Goroutine):Prop:=iU g/\Goes P Q mn g {y with G:=χ.empty}
def ly (P:Program) (d:Nat) (g:Goroutine):Prop:=∃n,QuitsD P n d g
theorem bt {P:Program} {Q:Value->Prop} {mn:Bool} {y:aZ} (γ:e0 y):IC P mn (kB P Q mn y):=λg g' J U μ=>⟨J,Quiet.goes (.cons J U (.nil _)) γ μ.1 μ.2⟩
theorem ed {P:Program} {d:Nat}:IC P false (ly P d):=λg g' J U ⟨n,μ⟩=>⟨n+1,.ctl J.1 U μ⟩
section
variable {P:Program} {Q:Value->Prop} {mn:Bool} {y:aZ} {b:Frame} {cs:List Frame} {nt:Nat} {k:List Item} {env:Ω}
variable {ops:Array Oper} {i:Nat} {rest:List Nat} {op:Oper} {f:FuncId} {e:Array Value->Sem Value} {args:Array Operand} {vs:List Value}
theorem af.leaves {d:Nat} (ι:y.rel=true) (Ξ:∀s,Gone (y.tok s)) (hd:y.deaf=d) (h:af (ly P d) b cs nt k env):af (kB P Q false y) b cs nt k env:=λt J U=>by
 obtain⟨n,Ζ⟩:=h t J U;subst hd;exact⟨⟨rfl,rfl⟩,Goes.quits n ι Ξ Ζ⟩
theorem af.disable (γ:e0 y) (h:g5 P b ops i op f (λ_=>do mark .disable;pure Extern.Race.none_) args env [] nt) (ς:af (kB P Q mn {y with deaf:=y.deaf+1}) b cs nt (.inRegion ops rest::k) (cj op env ou)):af (kB P Q mn y) b cs nt (.inRegion ops (i::rest)::k) env:=λt J U=>by
 obtain⟨s2,s1⟩:=ra U h.dst J (a:=ou) (v:=.tuple #[]) (.z _);exact⟨⟨rfl,rfl⟩,Goes.step γ.ok (.inr ⟨⟨rfl,rfl⟩,.inr (.inl ⟨Go.Conc.G (aA b (put op t (.tuple #[])) (.inRegion ops rest::k)) cs,⟨rfl,rfl⟩,.inl λw _=>
  ⟨h.step U (Ek .disable) (El .disable _) (rD η),(ς _ s1 s2).2⟩⟩)⟩)⟩
def IE (P:Program) (Q:Value->Prop) (mn:Bool) (y:aZ) (b:Frame) (cs:List Frame) (nt:Nat) (ops:Array Oper) (rest:List Nat) (k:List Item) (op:Oper) (env:Ω) (s φ:Nat) (ξ:aS) (v:Value):Prop:=
 af (kB P Q mn {y with view:=upd y.view s (some (φ,ξ))}) b cs nt (.inRegion ops rest::k) (cj op env (.z v))
def EI (P:Program) (Q:Value->Prop) (mn:Bool) (y:aZ) (b:Frame) (cs:List Frame) (nt:Nat) (ops:Array Oper) (rest:List Nat) (k:List Item) (op:Oper) (env:Ω) (s φ:Nat) (ξ:aS) (v:Value) (o':aS) (t':Tok):Prop:=
 Act ξ (y.tok s) o' t'/\∀cu,cu<φ->af (kB P Q mn {y with tok:=upd y.tok s t',view:=upd y.view s (some (cu,o'))}) b cs nt (.inRegion ops rest::k) (cj op env (.z v))
theorem af.ext (γ:e0 y) {s:Nat} {sp:Spec} (b0:y.spec s=some sp) (cS:¬gj (y.tok s)) (h:g5 P b ops i op f e args env vs nt)
  (a0:∀(w:World) (φ:Nat) (ξ:aS),Seen y s sp φ ξ->At s ξ w->
   (∃v w' gz,(e vs.toArray).run P w=.ok v w'/\(e vs.toArray).events P w #[⟨.mark (Mark.extern f),false,true⟩]=#[⟨.mark (Mark.extern f),false,true⟩]++gz/\(∀y∈gz,y.sync=true/\∀g,y.loc≠.mark (Mark.extern g))/\
    fH (λΨ _=>ew s sp Ψ) (λ_=>False) w w'/\oF s sp y.deaf gz/\
    ((At s ξ w'/\IE P Q mn y b cs nt ops rest k op env s φ ξ v)\/∃o' t',At s o' w'/\EI P Q mn y b cs nt ops rest k op env s φ ξ v o' t'))) :
  af (kB P Q mn y) b cs nt (.inRegion ops (i::rest)::k) env:=by
 obtain⟨eh,Μ⟩:=h.call;intro t J U;refine⟨⟨rfl,rfl⟩,Goes.step γ.ok (.inr ⟨⟨rfl,rfl⟩,.inr (.inr (.inr (.inl ⟨s,sp,b0,cS,λw φ ξ Υ hv ω bE y3 H7=>?_⟩)))⟩)⟩;obtain⟨v,w',gz,a1,bd,cI,gv,hT,mq⟩:=a0 w φ ξ ⟨ω,y3,H7⟩ bE;have cF:=Ei (mn:=mn) (cs:=cs) (rest:=rest) (k:=k) h.nF h.at_ (ko U h.want) Μ (h.Au.bp U) a1 bd cI;refine .inl ?_;rw[cF];obtain⟨s2,s1⟩:=ra U h.dst J (a:=.z v) (v:=v) (.z _);refine⟨⟨rfl,rfl⟩,gv,hT,?_⟩;rcases mq with⟨av,ba⟩|⟨o',t',av,ba,gZ⟩
 ·exact .inl ⟨av,(ba _ s1 s2).2⟩
 ·exact .inr ⟨o',t',ba,av,.inl (NV h.nF h.at_ Μ),λcu eD=>(gZ cu eD _ s1 s2).2⟩
section
variable {s:Nat} {sp:Spec} (γ:e0 y) (hd:0<y.deaf) (b0:y.spec s=some sp) (cS:¬gj (y.tok s))
include γ hd b0 cS
theorem af.H8 (h:g5 P b ops i op f (Extern.Atomic.loadT (.int .u64)) args env [.pointer (some ⟨s,0,none⟩)] nt)
  (dA:∀φ ξ,Seen y s sp φ ξ->IE P Q mn y b cs nt ops rest k op env s φ ξ (.int .u64 (cW ξ))):af (kB P Q mn y) b cs nt (.inRegion ops (i::rest)::k) env:=by
 refine .ext γ b0 cS h λw φ ξ ν bE=>?_;have δ:=bE.cP;refine⟨.int .u64 (cW ξ),w,#[⟨.cell ⟨s,0,none⟩,false,true⟩],?_,?_,rH (rG _ false),fH.refl _ _ _,rE (.inl rfl) hd (rG _ false),.inl ⟨bE,dA φ ξ ν⟩⟩
 ·change Sem.run P (do Extern.Atomic.read (.int .u64) (<-asAddr (.pointer (some _)))) w=_;simp[Extern.Atomic.read,asAddr,δ]
 ·change Sem.events P (do Extern.Atomic.read (.int .u64) (<-asAddr (.pointer (some _)))) w _=_;simp[Extern.Atomic.read,asAddr,δ,events_load]
theorem af.H9 {d:Int} (h:g5 P b ops i op f (Extern.Atomic.update (Op.intArith .add) .u64 true) args env [.pointer (some ⟨s,0,none⟩),.int .u64 d] nt)
  (dA:∀φ ξ,Seen y s sp φ ξ->∃o' t',cW o'=IntKind.u64.wrap (cW ξ+d)/\o'.cO=ξ.cO/\rI ξ o'/\EI P Q mn y b cs nt ops rest k op env s φ ξ (.int .u64 (cW o')) o' t') :
  af (kB P Q mn y) b cs nt (.inRegion ops (i::rest)::k) env:=by
 refine .ext γ b0 cS h λw φ ξ ν bE=>?_;have δ:=bE.cP;have Τ:=bE.uv 0;obtain⟨o',t',J,U,μ,Θ⟩:=dA φ ξ ν;rw[J] at Θ;refine⟨_,_,_,run_add_entry δ Τ,(events_add_entry δ Τ _).trans rfl,rH (rF ⟨s,0,none⟩),bE.x8 _,rE (.inl rfl) hd (rF ⟨s,0,none⟩),.inr ⟨o',t',bE.x7 μ.aW μ.g μ.w ?_,Θ⟩⟩;rw[J,U];rfl
theorem af.YY {d:Int} (h:g5 P b ops i op f Extern.Atomic.storeT args env [.pointer (some ⟨s,0,none⟩),.int .u64 d] nt)
  (dA:∀φ ξ,Seen y s sp φ ξ->∃o' t',cW o'=d/\o'.cO=ξ.cO/\rI ξ o'/\EI P Q mn y b cs nt ops rest k op env s φ ξ (.tuple #[]) o' t') :
  af (kB P Q mn y) b cs nt (.inRegion ops (i::rest)::k) env:=by
 refine .ext γ b0 cS h λw φ ξ ν bE=>?_;have δ:=bE.cP;have Τ:=bE.uv 0;obtain⟨o',t',J,U,μ,Θ⟩:=dA φ ξ ν;refine⟨.tuple #[],w.setCell ⟨s,0,none⟩ (.int .u64 d),#[⟨.cell ⟨s,0,none⟩,true,true⟩],?_,?_,rH (rG _ true),bE.x8 _,rE (.inl rfl) hd (rG _ true),.inr ⟨o',t',bE.x7 μ.aW μ.g μ.w (by rw[J,U];rfl),Θ⟩⟩
 ·change Sem.run P (do
   store (<-asAddr (.pointer (some _))) (.int .u64 d) .atomic
   pure Extern.Atomic.none_) w=_
  simp[asAddr,δ,Τ,run_store P w _ (.int .u64 d) .atomic rfl,Result.andThen,Extern.Atomic.none_]
 ·change Sem.events P (do
   store (<-asAddr (.pointer (some _))) (.int .u64 d) .atomic
   pure Extern.Atomic.none_) w _=_
  simp[asAddr,δ,Τ,events_store P w _ _ (.int .u64 d) .atomic rfl]
end
section
variable {s:Nat} {sp:Spec} (γ:e0 y) (b0:y.spec s=some sp) (cS:¬gj (y.tok s))
include γ b0 cS
theorem af.YZ (aj:vs[0]?=some (.pointer (some ⟨s,1,none⟩))) (h:g5 P b ops i op f Extern.Sync.semrelease args env vs nt)
  (dA:∀φ ξ,Seen y s sp φ ξ->ξ.cO<1000/\∃o' t',cW o'=cW ξ/\o'.cO=ξ.cO+1/\rI ξ o'/\EI P Q mn y b cs nt ops rest k op env s φ ξ (.tuple #[]) o' t') :
  af (kB P Q mn y) b cs nt (.inRegion ops (i::rest)::k) env:=by
 refine .ext γ b0 cS h λw φ ξ ν bE=>?_;have δ:=bE.Χ;obtain⟨aP,o',t',J,U,μ,Θ⟩:=dA φ ξ ν;refine⟨_,_,_,N4 aj δ (bE.uv 1),N5 aj δ (bE.uv 1) _,semEvents_sync _,bE.x8 _,Ep (.inl rfl),.inr ⟨o',t',bE.x7 μ.aW μ.g μ.w ?_,Θ⟩⟩;rw[J,U,show IntKind.u32.wrap (((ξ.cO:Nat):Int)+1)=((ξ.cO+1:Nat):Int) by simp only[IntKind.wrap_u32];omega];rfl
end
theorem OL {t:Array Value} (hb:b.mode=.run) (cn:b.roundOf=none) (eR:b.defers=[Go.Conc.dcall f #[]]) (gY:b.kind=.normal) {fn:Func} (bM:P.funcs[b.fn]?=some fn) (e6:fn.results=#[]) (he:Entry P f (λ_=>do mark .enable;pure Extern.Race.none_)) {c:Frame}
  (h:ly P 0 (Go.Conc.G (c.finish (.tuple #[])) cs)):ly P 1 (Go.Conc.G {aA b t k with mode:=.returning} (c::cs)):=by
 obtain⟨iΙ,Δ,Γ,a2,cL,fa⟩:=he;obtain⟨n,Ζ⟩:=h;rw[gO hb cn];refine⟨n+1+1,QuitsD.unwind_mark (a:=⟨t,b.defers⟩) (ds:=[]) .enable rfl η eR Δ Γ a2 cL fa ?_⟩;exact .ctl rfl (λw=>stepG_leave (a:=⟨t,[]⟩) gY rfl bM (Go.results_none e6 _ P w) (Go.Conc.events_results_none e6 _ _)) Ζ
theorem af.Ix (hb:b.mode=.run) (cn:b.roundOf=none) (eR:b.defers=[Go.Conc.dcall f #[]]) (gY:b.kind=.normal) {fn:Func} (bM:P.funcs[b.fn]?=some fn) (e6:fn.results=#[]) (he:Entry P f (λ_=>do mark .enable;pure Extern.Race.none_)) {c:Frame}
  (h:ly P 0 (Go.Conc.G (c.finish (.tuple #[])) cs)):af (ly P 1) b (c::cs) nt (.code .ret::k) env:=λt _ _=>by
 refine ed _ (Go.Conc.G {aA b t (.code .ret::k) with mode:=.returning} (c::cs)) ⟨rfl,rfl⟩ (λw=>?_) (OL hb cn eR gY bM e6 he h);rw[jy hb];unfold stepG.exec;simp only[aA,cn];rfl
theorem af.Y0 (hb:b.mode=.run) (cn:b.roundOf=none) (eR:b.defers=[Go.Conc.dcall f #[]]) (gY:b.kind=.normal) {fn:Func} (bM:P.funcs[b.fn]?=some fn) (e6:fn.results=#[]) (he:Entry P f (λ_=>do mark .enable;pure Extern.Race.none_)) {c:Frame}
  (h:ly P 0 (Go.Conc.G (c.finish (.tuple #[])) cs)):af (ly P 1) b (c::cs) nt [] env:=λt _ _=>by
 refine ed _ (Go.Conc.G {aA b t [] with mode:=.returning} (c::cs)) ⟨rfl,rfl⟩ (λw=>?_) (OL hb cn eR gY bM e6 he h);rw[jy hb];unfold stepG.exec;simp only[aA,cn];rfl
end
def yi (x:aZ):aZ:={x with aM:=λ_=>none,rel:=true}
theorem V.Gd {P:Program} {Q:Value->Prop} {x:aZ} {b:Frame} {cs:List Frame} {nt:Nat} {o:Base} {k:List Item} {env:Ω} {ops:Array Oper} {i:Nat} {rest:List Nat} {op:Oper} {f:FuncId} {args:Array Operand} (γ:x.rel=false) {s n:Nat} {sp:Spec} {mu:lG} {v:Option (Nat×aS)} (b0:x.spec s=some sp) (tv:mu=.done\/(mu=.idle/\sp.aW=none)) (cS:∀bm,bm≠s->gj (x.tok bm)) (et:sp.D n χ.empty)
  (h:g5 P b ops i op f (Extern.Race.marked .releaseMerge) args env [.pointer (some ⟨s,0,none⟩)] nt) (he:∀p∈cj op env ou,∃v,p.2=θ.z v)
  (ς:af (kB P Q false (bx (yi x) s (.ch n mu .rel) none 0)) b cs nt (.inRegion ops rest::k) (cj op env ou)):V P Q false (one (bx x s (.ch n mu .work) v 0)) b cs nt o (.inRegion ops (i::rest)::k) env []:=by
 intro S B H t κ ψ y Ι;cases Ι;have mU:=ψ.put h.dst (a:=ou) (v:=.tuple #[]) (.z _);have Ξ:=(ς _ mU.size (AI he mU.cA)).2;refine Goes.step (e0.ok (.inl γ)) (.inr ⟨⟨rfl,rfl⟩,.inr (.inr (.inr (.inr (.inr (.inr (.inl ⟨s,sp,n,mu,Go.Conc.G (aA b (put op t (.tuple #[])) (.inRegion ops rest::k)) cs,χ.empty,b0,b7 (v:=v) (d:=0),tv,λbm jo=>by
  rw[show({bx x s (.ch n mu .work) v 0 with G:=H}:aZ).tok bm=(bx x s (.ch n mu .work) v 0).tok bm from rfl,Ay jo];exact cS bm jo,rfl,⟨rfl,rfl⟩,γ,λw _=>
  h.step ψ.cA (x4 .releaseMerge _) (x5 .releaseMerge _ _) (rD η),⟨λb o v p δ=>(by cases δ),λb y δ=>(by cases δ),λb y δ=>(by cases δ)⟩,et,?_⟩))))))⟩)
 have e:({({bx x s (.ch n mu .work) v 0 with G:=H}:aZ) with G:=χ.empty,aM:=λ_=>none,tok:=upd ({bx x s (.ch n mu .work) v 0 with G:=H}:aZ).tok s (.ch n mu .rel),view:=upd ({bx x s (.ch n mu .work) v 0 with G:=H}:aZ).view s none,rel:=true}:aZ)={bx (yi x) s (.ch n mu .rel) none 0 with G:=χ.empty}:=by
  unfold bx yi;simp only[Ic]
 exact e▸Ξ
end Go.TL
namespace Go.TL
open Go.Conc Go.Proofs
open Go.ConcN (sumTo upd sumTo_upd upd_ne upd_same sumTo_congr le_sumTo)
noncomputable def EJ:Code:=Tryz.f140.body.getD .skip
noncomputable abbrev IF (s:Nat):Frame:={Frame.enter Tryz.prog 140 #[ptr s 0,.int .i64 (-1)] .normal with defers:=[Go.Conc.dcall 161 #[]]}
theorem Y1:IntKind.u64.wrap (IntKind.u64.wrap (-1)*2 ^ min 32 IntKind.u64.bits)=18446744069414584320:=bu
theorem Y2:IntKind.u64.wrap (18446744073709551615*2 ^ min 32 IntKind.u64.bits)=18446744069414584320:=bu
theorem Y3:IntKind.u64.wrap (-1)=18446744073709551615:=bu
theorem EK:IntKind.i32.wrap (-1)=-1:=bu
section
variable {Q:Value->Prop} {c:Frame} {rest:List Frame} {s k:Nat} {sp:Spec} {v:Option (Nat×aS)}
theorem Y4 [bn] (Κ:ly Tryz.prog 0 (Go.Conc.G (c.finish (.tuple #[])) rest)) {cc w0:Nat} (J:cc<8) (U:w0<2) (μ:0<cc\/w0=0) {env:Ω} (cl:a9 env 0=.z (ptr s 0)) (Δ:a9 env 1=.z (.int .i64 (-1))) (cL:a9 env 4=.z (.bool false)) (lL:a9 env 6=.z (.int .u64 (ij cc w0))) :
  af (ly Tryz.prog 1) (IF s) (c::rest) 117 [.code (dV [1,1,1,1] EJ)] env:=by
 have fin:∀(K:List Item) (env:Ω),af (ly Tryz.prog 1) (IF s) (c::rest) 117 (.code .ret::K) env:=λK env=>af.Ix rfl rfl rfl rfl Tryz.func140 rfl uw Κ
 have OM:¬(cc:Int)<0:=Int.not_lt.2 (Int.natCast_nonneg _)
 have hw:w0=0\/w0=1:=R
 have f1:=ED cc J w0 U
 have f2:=EE cc J w0 U
 have f3:=EF cc J w0 U;generalize ij cc w0=w at f1 f2 f3 lL;unfold EJ;by_cases ψ:0<cc
 ·have h9:(0:Int)<cc:=by exact_mod_cast ψ
  rcases hw with rfl|rfl
  ·(repeat (first|refine af.seq ed rfl ?_|refine af.block ed rfl ?_|refine af.inBlock ed rfl ?_|refine af.skip ed rfl ?_|refine af.m6 ed rfl rfl ?_|refine af.m7 ed rfl rfl ?_|(refine af.region ed rfl Ρ rfl (by simp[Frame.enter]) λΕ ζ=>?_;(try simp);(repeat (refine g9 ?_;simp[cl,Δ,cL,lL,f1,f2,f3,EK,OM,ψ,h9]));refine ζ _ ?_)));exact fin _ _
  ·(repeat (first|refine af.seq ed rfl ?_|refine af.block ed rfl ?_|refine af.inBlock ed rfl ?_|refine af.skip ed rfl ?_|refine af.m6 ed rfl rfl ?_|refine af.m7 ed rfl rfl ?_|(refine af.region ed rfl Ρ rfl (by simp[Frame.enter]) λΕ ζ=>?_;(try simp);(repeat (refine g9 ?_;simp[cl,Δ,cL,lL,f1,f2,f3,EK,OM,ψ,h9]));refine ζ _ ?_)));exact fin _ _
 ·have aj:w0=0:=μ.resolve_left ψ
  have ic:cc=0:=Nat.eq_zero_of_not_pos ψ;subst aj;subst ic;(repeat (first|refine af.seq ed rfl ?_|refine af.block ed rfl ?_|refine af.inBlock ed rfl ?_|refine af.skip ed rfl ?_|refine af.m6 ed rfl rfl ?_|refine af.m7 ed rfl rfl ?_|(refine af.region ed rfl Ρ rfl (by simp[Frame.enter]) λΕ ζ=>?_;(try simp);(repeat (refine g9 ?_;simp[cl,Δ,cL,lL,f1,f2,f3,EK]));refine ζ _ ?_)));exact fin _ _
structure qw (x:aZ) (s:Nat) (sp:Spec):Prop where
 rel:x.rel=true
 spec:x.spec s=some sp
 top:sp.top<7
 shut:∀bm,bm≠s->gj (x.tok bm)
theorem qw.here {x:aZ} (h:qw x s sp) {g:tm} {d:Nat} (Ξ:g≠.gone):e0 (bx x s (.ch k .done g) v d):=.inr ⟨s,by rw[b7];cases g<;>simp_all [Gone]⟩
theorem qw.gone {x:aZ} (h:qw x s sp) {d:Nat}:∀bm,Gone ((bx x s (.ch k .done .gone) v d).tok bm):=λbm=>by
 by_cases e:bm=s
 ·subst e;rw[b7];trivial
 ·rw[Ay e];have:=h.shut bm e;revert this;cases x.tok bm with
  | nil=>exact λ_=>trivial
  | par n p aL=>cases aL<;>exact λh=>h
  | ch k m g=>exact λh=>h.elim
theorem qw.EG {x:aZ} (δ:qw x s sp) {ξ:aS} (h:ξ.toSpec=sp):ξ.top<7:=by have:=δ.top;rw[show ξ.top=sp.top by rw[<-h]];exact this
theorem af.back [bn] {dC:Goroutine->Prop} {b:Frame} {cs:List Frame} {nt:Nat} {k:List Item} {env:Ω} {ops:Array Oper} {i:Nat} {rest:List Nat} {op:Oper} {t:Array Value} {v:Value} (ω:ops[i]?=some op) (hd:ik nt op=true) (Ν:t.size=nt) (ν:du fj [] [] env t)
  (h:af dC b cs nt (.inRegion ops rest::k) (cj op env (.z v))):dC (Go.Conc.G ((aA b t (.inRegion ops (i::rest)::k)).finish v) cs):=by
 rw[iF ω];obtain⟨s2,s1⟩:=ra ν hd Ν (a:=.z v) (v:=v) (.z _);exact h _ s1 s2
theorem af.ON [bn] {P:Program} {b:Frame} {cs:List Frame} {nt:Nat} {env:Ω} (hb:b.mode=.run) (cn:b.roundOf=none) (eR:b.defers=[]) (gY:b.kind=.deferred) {fn:Func} (bM:P.funcs[b.fn]?=some fn) (e6:fn.results=#[]) {c:Frame} (pj:c.mode=.returning)
  (h:ly P 0 (Go.Conc.G c cs)):af (ly P 0) b (c::cs) nt [] env:=λt _ _=>by
 obtain⟨n,Ζ⟩:=h;refine ed _ (Go.Conc.G {aA b t [] with mode:=.returning} (c::cs)) ⟨rfl,rfl⟩ (λw=>?_) ⟨n+1,?_⟩
 ·rw[jy hb];unfold stepG.exec;simp only[aA,cn];rfl
 ·rw[gO hb cn];exact QuitsD.leaveD (a:=⟨t,b.defers⟩) gY eR bM e6 pj Ζ
theorem Y5 [bn] {x:aZ} (δ:qw x s sp) {t:Tok} (a0:∀v,e0 (bx x s t v 1)) (cS:¬gj t) {cs:List Frame} (dA:∀φ ξ,Seen (bx x s t v 1) s sp φ ξ->kB Tryz.prog Q false (bx x s t (some (φ,ξ)) 1) (Go.Conc.G (c.finish (.int .u64 (cW ξ))) cs)) :
  af (kB Tryz.prog Q false (bx x s t v 1)) (Frame.enter Tryz.prog 168 #[ptr s 0] .normal) (c::cs) 7 [.code (Tryz.f168.body.getD .skip)] (entry 0 [.z (ptr s 0)]):=by
 simp only[Tryz.f168,Option.getD_some];(repeat (first|refine af.seq (bt (a0 _)) rfl ?_|refine af.block (bt (a0 _)) rfl ?_|refine af.inBlock (bt (a0 _)) rfl ?_|refine af.skip (bt (a0 _)) rfl ?_|refine af.m6 (bt (a0 _)) rfl rfl ?_|refine af.m7 (bt (a0 _)) rfl rfl ?_|(refine af.region (bt (a0 _)) rfl Ρ rfl (by simp[Frame.enter]) λΕ ζ=>?_;(try simp);(repeat (refine g9 ?_;simp[cS]));refine ζ _ ?_)));refine af.cr (bt (a0 _)) rfl ?_;refine af.part (bt (a0 _)) rfl Ρ rfl (by simp[Frame.enter]) [0,1,2] [3,4] rfl λΕ ζ=>?_;(try simp[-wv]);(repeat (refine g9 ?_;simp));refine ζ _ ?_;refine af.H8 (a0 _) (Nat.succ_pos _) (sp:=sp) δ.spec (by rw[b7];exact cS) ⟨⟨rfl,rfl,by simp[Frame.enter],rfl⟩,Oe,⟨_,rfl⟩,rfl,rfl,rfl⟩ λφ ξ ν=>?_;unfold IE;rw[kA];refine af.part (bt (a0 _)) rfl Ρ rfl (by simp[Frame.enter]) [4] [] rfl λΕ ζ=>?_;(try simp[-wv]);(repeat (refine g9 ?_;simp));refine ζ _ ?_;refine af.bJ (bt (a0 _)) rfl ?_;exact af.sV (bt (a0 _)) rfl rfl rfl rfl Tryz.func168 rfl rfl (dA φ ξ ν)
theorem Y6 [bn] {x:aZ} (δ:qw x s sp) {t t':Tok} {d:Int} (a0:∀v,e0 (bx x s t v 1)) (OO:∀v,e0 (bx x s t' v 1)) (cS:¬gj t) {cs:List Frame} (dA:∀φ ξ,Seen (bx x s t v 1) s sp φ ξ->∃o',cW o'=d/\o'.cO=ξ.cO/\rI ξ o'/\Act ξ t o' t'/\∀cu,cu<φ->kB Tryz.prog Q false (bx x s t' (some (cu,o')) 1) (Go.Conc.G (c.finish (.tuple #[])) cs)) :
  af (kB Tryz.prog Q false (bx x s t v 1)) (Frame.enter Tryz.prog 169 #[ptr s 0,.int .u64 d] .normal) (c::cs) 9 [.code (Tryz.f169.body.getD .skip)] (entry 0 [.z (ptr s 0),.z (.int .u64 d)]):=by
 simp only[Tryz.f169,Option.getD_some];(repeat (first|refine af.seq (bt (a0 _)) rfl ?_|refine af.block (bt (a0 _)) rfl ?_|refine af.inBlock (bt (a0 _)) rfl ?_|refine af.skip (bt (a0 _)) rfl ?_|refine af.m6 (bt (a0 _)) rfl rfl ?_|refine af.m7 (bt (a0 _)) rfl rfl ?_|(refine af.region (bt (a0 _)) rfl Ρ rfl (by simp[Frame.enter]) λΕ ζ=>?_;(try simp);(repeat (refine g9 ?_;simp[cS]));refine ζ _ ?_)));refine af.cr (bt (a0 _)) rfl ?_;refine af.part (bt (a0 _)) rfl Ρ rfl (by simp[Frame.enter]) [0,1,2,3] [4] rfl λΕ ζ=>?_;(try simp[-wv]);(repeat (refine g9 ?_;simp));refine ζ _ ?_;refine af.YY (a0 _) (Nat.succ_pos _) (sp:=sp) δ.spec (by rw[b7];exact cS) ⟨⟨rfl,rfl,by simp[Frame.enter],rfl⟩,Yc,⟨_,rfl⟩,rfl,rfl,rfl⟩ λφ ξ ν=>?_;obtain⟨o',a1,bd,cI,gv,hT⟩:=dA φ ξ ν;refine⟨o',t',a1,bd,cI,by rw[b7];exact gv,λcu eD=>?_⟩;rw[g6];refine af.bJ (bt (OO _)) rfl ?_;exact af.Er (bt (OO _)) rfl rfl rfl rfl Tryz.func169 rfl (hT cu eD)
theorem Y7 [bn] {x:aZ} (δ:qw x s sp) {t:Tok} {d:Int} (a0:∀v,e0 (bx x s t v 1)) (cS:¬gj t) {cs:List Frame}
  (dA:∀φ ξ,Seen (bx x s t v 1) s sp φ ξ->∃o' t',cW o'=IntKind.u64.wrap (cW ξ+d)/\o'.cO=ξ.cO/\rI ξ o'/\Act ξ t o' t'/\∀cu,cu<φ->(((∀v,e0 (bx x s t' v 1))/\kB Tryz.prog Q false (bx x s t' (some (cu,o')) 1) (Go.Conc.G (c.finish (.int .u64 (cW o'))) cs))\/((∀bm,Gone ((bx x s t' (some (cu,o')) 1).tok bm))/\ly Tryz.prog 1 (Go.Conc.G (c.finish (.int .u64 (cW o'))) cs)))) :
  af (kB Tryz.prog Q false (bx x s t v 1)) (Frame.enter Tryz.prog 166 #[ptr s 0,.int .u64 d] .normal) (c::cs) 10 [.code (Tryz.f166.body.getD .skip)] (entry 0 [.z (ptr s 0),.z (.int .u64 d)]):=by
 simp only[Tryz.f166,Option.getD_some];(repeat (first|refine af.seq (bt (a0 _)) rfl ?_|refine af.block (bt (a0 _)) rfl ?_|refine af.inBlock (bt (a0 _)) rfl ?_|refine af.skip (bt (a0 _)) rfl ?_|refine af.m6 (bt (a0 _)) rfl rfl ?_|refine af.m7 (bt (a0 _)) rfl rfl ?_|(refine af.region (bt (a0 _)) rfl Ρ rfl (by simp[Frame.enter]) λΕ ζ=>?_;(try simp);(repeat (refine g9 ?_;simp[cS]));refine ζ _ ?_)));refine af.cr (bt (a0 _)) rfl ?_;refine af.part (bt (a0 _)) rfl Ρ rfl (by simp[Frame.enter]) [0,1,2,3] [4,5] rfl λΕ ζ=>?_;(try simp[-wv]);(repeat (refine g9 ?_;simp));refine ζ _ ?_;refine af.H9 (a0 _) (Nat.succ_pos _) (sp:=sp) δ.spec (by rw[b7];exact cS) ⟨⟨rfl,rfl,by simp[Frame.enter],rfl⟩,Od,⟨_,rfl⟩,rfl,rfl,rfl⟩ λφ ξ ν=>?_;obtain⟨o',t',a1,bd,cI,gv,hT⟩:=dA φ ξ ν;refine⟨o',t',a1,bd,cI,by rw[b7];exact gv,λcu eD=>?_⟩;rw[g6];rcases hT cu eD with⟨bw,dm⟩|⟨bw,dm⟩
 ·refine af.part (bt (bw _)) rfl Ρ rfl (by simp[Frame.enter]) [5] [] rfl λΕ ζ=>?_;(try simp[-wv]);(repeat (refine g9 ?_;simp));refine ζ _ ?_;refine af.bJ (bt (bw _)) rfl ?_;exact af.sV (bt (bw _)) rfl rfl rfl rfl Tryz.func166 rfl rfl dm
 ·refine af.leaves (d:=1) δ.rel bw rfl ?_;refine af.part ed rfl Ρ rfl (by simp[Frame.enter]) [5] [] rfl λΕ ζ=>?_;(try simp[-wv]);(repeat (refine g9 ?_;simp));refine ζ _ ?_;refine af.bJ ed rfl ?_;exact af.sV ed rfl rfl rfl rfl Tryz.func166 rfl rfl dm
theorem Y8 [bn] {x:aZ} (δ:qw x s sp) (Κ:ly Tryz.prog 0 (Go.Conc.G (c.finish (.tuple #[])) rest)) {env:Ω} (cl:a9 env 0=.z (ptr s 0)) (Δ:a9 env 1=.z (.int .i64 (-1))) (cL:a9 env 4=.z (.bool false)) (lL:a9 env 6=.z (.int .u64 (ij 0 1))) :
  af (kB Tryz.prog Q false (bx x s (.ch k .done .l2) v 1)) (IF s) (c::rest) 117 [.code (dV [1,1,1,1] EJ)] env:=by
 have f1:=ED 0 bu 1 bu
 have f2:=EE 0 bu 1 bu
 have f3:=EF 0 bu 1 bu
 have h2:ij 0 1=1:=bu;generalize hw:ij 0 1=w at f1 f2 f3 lL;have U:=δ.here (k:=k) (v:=v) (d:=1) (g:=.l2) η;unfold EJ;(repeat (first|refine af.seq (bt U) rfl ?_|refine af.block (bt U) rfl ?_|refine af.inBlock (bt U) rfl ?_|refine af.skip (bt U) rfl ?_|refine af.m6 (bt U) rfl rfl ?_|refine af.m7 (bt U) rfl rfl ?_|(refine af.region (bt U) rfl Ρ rfl (by simp[Frame.enter]) λΕ ζ=>?_;(try simp);(repeat (refine g9 ?_;simp[cl,Δ,cL,lL,f1,f2,f3,EK]));refine ζ _ ?_)));refine af.cr (bt U) rfl ?_;refine af.part (bt U) rfl Ρ rfl (by simp[Frame.enter]) [0,1,2] [3,4,5] rfl λΕ ζ=>?_;(repeat (refine g9 ?_;simp[cl]));refine ζ _ ?_;refine af.call (bt U) rfl ⟨rfl,rfl,by simp[Frame.enter],rfl⟩ rfl rfl (vs:=[ptr s 0]) rfl Tryz.func168 rfl rfl (by simp[Tryz.ntmps168]) λt Ν ν=>?_;have hs:∀v,e0 (bx x s (.ch k .done .l2) v 1):=λv=>δ.here η;have j7:∀v,e0 (bx x s (.ch k .done .hS) v 1):=λv=>δ.here η;refine Y5 δ hs id λφ ξ rL=>?_;have ς:=rL.jE.sY;rw[b7] at ς;obtain⟨Χ,ak⟩:=ς.l2 k _ rfl;have qT:cW ξ=w:=by rw[<-hw];simp only[cW,Χ,ak]
 rw[qT];refine af.back rfl rfl Ν ν ?_;refine af.part (bt (hs _)) rfl Ρ rfl (by simp[Frame.enter]) [4,5] [] rfl λΕ ζ=>?_;(repeat (refine g9 ?_;simp[lL]));refine ζ _ ?_;refine af.bJ (bt (hs _)) rfl ?_;(repeat (first|refine af.seq (bt (hs _)) rfl ?_|refine af.block (bt (hs _)) rfl ?_|refine af.inBlock (bt (hs _)) rfl ?_|refine af.skip (bt (hs _)) rfl ?_|refine af.m6 (bt (hs _)) rfl rfl ?_|refine af.m7 (bt (hs _)) rfl rfl ?_|(refine af.region (bt (hs _)) rfl Ρ rfl (by simp[Frame.enter]) λΕ ζ=>?_;(try simp);(repeat (refine g9 ?_;simp[cl]));refine ζ _ ?_)));refine af.cr (bt (hs _)) rfl ?_;refine af.part (bt (hs _)) rfl Ρ rfl (by simp[Frame.enter]) [0,1,2] [3] rfl λΕ ζ=>?_;(repeat (refine g9 ?_;simp[cl]));refine ζ _ ?_;refine af.call (bt (hs _)) rfl ⟨rfl,rfl,by simp[Frame.enter],rfl⟩ rfl rfl (vs:=[ptr s 0,.int .u64 0]) rfl Tryz.func169 rfl rfl (by simp[Tryz.ntmps169]) λt3 Y9 rK=>?_;refine Y6 δ (t':=.ch k .done .hS) hs j7 id λAK Y' Za=>?_;have wj:=Za.jE.sY;rw[b7] at wj;obtain⟨aY,cy⟩:=wj.l2 k _ rfl;refine⟨{Y' with wt:=0},by simp only[cW,cy];rfl,rfl,⟨rfl,rfl,rfl⟩,.RE,λiΚ iΜ=>?_⟩;refine af.back rfl rfl Y9 rK ?_;refine af.bJ (bt (j7 _)) rfl ?_;(repeat (first|refine af.seq (bt (j7 _)) rfl ?_|refine af.block (bt (j7 _)) rfl ?_|refine af.inBlock (bt (j7 _)) rfl ?_|refine af.skip (bt (j7 _)) rfl ?_|refine af.m6 (bt (j7 _)) rfl rfl ?_|refine af.m7 (bt (j7 _)) rfl rfl ?_|(refine af.region (bt (j7 _)) rfl Ρ rfl (by simp[Frame.enter]) λΕ ζ=>?_;(try simp);(repeat (refine g9 ?_;simp[cl,cL]));refine ζ _ ?_)));refine af.loop (bt (j7 _)) rfl ?_;(repeat (first|refine af.seq (bt (j7 _)) rfl ?_|refine af.block (bt (j7 _)) rfl ?_|refine af.inBlock (bt (j7 _)) rfl ?_|refine af.skip (bt (j7 _)) rfl ?_|refine af.m6 (bt (j7 _)) rfl rfl ?_|refine af.m7 (bt (j7 _)) rfl rfl ?_|(refine af.region (bt (j7 _)) rfl Ρ rfl (by simp[Frame.enter]) λΕ ζ=>?_;(try simp);(repeat (refine g9 ?_;simp[cl,cL]));refine ζ _ ?_)));refine af.cr (bt (j7 _)) rfl ?_;refine af.part (bt (j7 _)) rfl Ρ rfl (by simp[Frame.enter]) [0,1,2] [3] rfl λΕ ζ=>?_;(repeat (refine g9 ?_;simp[cl]));refine ζ _ ?_;refine af.YZ (j7 _) (sp:=sp) δ.spec (by rw[b7];exact id) (vs:=[ptr s 1,.bool false,.int .i64 0]) rfl ⟨⟨rfl,rfl,by simp[Frame.enter],rfl⟩,Yh,⟨_,rfl⟩,rfl,rfl,rfl⟩ λiΝ OP Zb=>?_;have OQ:=Zb.jE.sY;rw[b7] at OQ;refine⟨by have:=OQ.cO;omega,{OP with cO:=OP.cO+1},.ch k .done .gone,rfl,rfl,⟨rfl,rfl,rfl⟩,by rw[b7];exact .RF,λiΞ iΟ=>?_⟩;rw[g6];refine af.leaves (d:=1) δ.rel δ.gone rfl ?_;refine af.bJ ed rfl ?_;(repeat (first|refine af.seq ed rfl ?_|refine af.block ed rfl ?_|refine af.inBlock ed rfl ?_|refine af.skip ed rfl ?_|refine af.m6 ed rfl rfl ?_|refine af.m7 ed rfl rfl ?_|(refine af.region ed rfl Ρ rfl (by simp[Frame.enter]) λΕ ζ=>?_;(try simp);(repeat (refine g9 ?_;simp[cl,EH]));refine ζ _ ?_)));refine af.inLoop ed rfl ?_;(repeat (first|refine af.seq ed rfl ?_|refine af.block ed rfl ?_|refine af.inBlock ed rfl ?_|refine af.skip ed rfl ?_|refine af.m6 ed rfl rfl ?_|refine af.m7 ed rfl rfl ?_|(refine af.region ed rfl Ρ rfl (by simp[Frame.enter]) λΕ ζ=>?_;(try simp);(repeat (refine g9 ?_;simp[cl,EH]));refine ζ _ ?_)));refine af.exit ed rfl rfl ?_;exact af.Y0 rfl rfl rfl rfl Tryz.func140 rfl uw Κ
structure OR (x:aZ) (s:Nat) (sp:Spec):Prop where
 rel:x.rel=false
 aM:x.aM=λ_=>none
 spec:x.spec s=some sp
 top:sp.top<7
 shut:∀bm,bm≠s->gj (x.tok bm)
theorem Zc {x:aZ} {H:χ} (δ:OR x s sp) (et:sp.D k χ.empty) (pj:c.mode=.returning) (Κ:ly Tryz.prog 0 (Go.Conc.G c rest)) :
  cx Tryz.prog Q false (bx x s (.ch k .done .work) v 0) (Frame.enter Tryz.prog 142 #[ptr s 0] .deferred) (c::rest) H:=by
 letI:bn:=e1;have γ:∀t v d,Seq (one (bx x s t v d)):=λt v d=>Seq.uu trivial δ.rel δ.aM;have Ξ:qw (yi x) s sp:=⟨rfl,δ.spec,δ.top,δ.shut⟩;have ι:∀v d,e0 (bx (yi x) s (.ch k .done .rel) v d):=λv d=>Ξ.here η;have ο:∀v d,e0 (bx (yi x) s (.ch k .done .l2) v d):=λv d=>Ξ.here η;rw[qc (body:=Tryz.f142.body.getD .skip) Tryz.func142 rfl];refine V.here (x:=one _) (m:=0) (nt:=4) (S:=fj) (B:=[]) (σ:=[]) (env:=entry 0 [.z (ptr s 0)]) ?_ (fN.enter (yd H) ⟨rfl,λi a v J U=>?_⟩ (Nat.le_refl _) η) _ rfl
 ·refine V.fR (γ _ _ _) rfl ?_;simp only[Tryz.f142,Option.getD_some]
  repeat first|apply a3|apply wb|apply a4|apply wd
  refine W.cr ?_;refine fw [0] [1] ?_;refine W.stop ?_;refine V.call (γ _ _ _) ⟨rfl,rfl,by simp[Frame.enter],rfl⟩ rfl rfl rfl ⟨_,Tryz.func140,rfl,rfl⟩ λbN bT H1 t1 o7 κ ψ hv=>?_;obtain rfl:=m1 (l:=[ptr s 0,.int .i64 (-1)]) hv;obtain rfl:bT=[]:=dG.1 ψ.holds.len;rintro y rfl;refine V.qo (z:=one _) (vs:=[ptr s 0,.int .i64 (-1)]) Tryz.func140 rfl ψ.holds (by simp[Tryz.ntmps140]) ?_ _ rfl;refine V.fR (γ _ _ _) rfl ?_;(repeat (first|apply a3|apply wb|apply a4|apply wd|refine ai rfl ?_|refine aa rfl ?_|(refine bs λΕ ζ=>?_;simp;(repeat (rw[Ο];simp[]));apply ζ)));refine W.cr ?_;refine fw [0] [1,2] ?_;refine W.stop ?_;refine V.conv (γ _ _ _).here (sp:=sp) δ.spec (by rw[b7];exact id) ⟨rfl,rfl,by simp[Frame.enter],rfl⟩ rfl rfl rfl Im uy Io rfl (λξ w ω bE=>⟨_,bE.cP⟩) (λφ ξ ν=>?_);unfold iv;rw[kA];refine V.Gd δ.rel (sp:=sp) δ.spec (.inl rfl) δ.shut et ⟨⟨rfl,rfl,by simp[Frame.enter],rfl⟩,Oa,⟨_,rfl⟩,rfl,rfl,rfl⟩ η ?_;refine af.bJ (bt (ι _ _)) rfl ?_;(repeat (first|refine af.seq (bt (ι _ _)) rfl ?_|refine af.block (bt (ι _ _)) rfl ?_|refine af.inBlock (bt (ι _ _)) rfl ?_|refine af.skip (bt (ι _ _)) rfl ?_|refine af.m6 (bt (ι _ _)) rfl rfl ?_|refine af.m7 (bt (ι _ _)) rfl rfl ?_|(refine af.region (bt (ι _ _)) rfl Ρ rfl (by simp[Frame.enter]) λΕ ζ=>?_;(try simp);(repeat (refine g9 ?_;simp[pj]));refine ζ _ ?_)));refine af.cr (bt (ι _ _)) rfl ?_;refine af.disable (ι _ _) ⟨⟨rfl,rfl,by simp[Frame.enter],rfl⟩,AA,⟨_,rfl⟩,rfl,rfl,rfl⟩ ?_;rw[Aw];refine af.bJ (bt (ι _ _)) rfl ?_;refine af.cr (bt (ι _ _)) rfl ?_;refine af.Ib (bt (ι _ _)) rfl ⟨rfl,rfl,by simp[Frame.enter],rfl⟩ rfl rfl rfl ?_;refine af.bJ (bt (ι _ _)) rfl ?_;(repeat (first|refine af.seq (bt (ι _ _)) rfl ?_|refine af.block (bt (ι _ _)) rfl ?_|refine af.inBlock (bt (ι _ _)) rfl ?_|refine af.skip (bt (ι _ _)) rfl ?_|refine af.m6 (bt (ι _ _)) rfl rfl ?_|refine af.m7 (bt (ι _ _)) rfl rfl ?_|(refine af.region (bt (ι _ _)) rfl Ρ rfl (by simp[Frame.enter]) λΕ ζ=>?_;(try simp);(repeat (refine g9 ?_;simp[pj]));refine ζ _ ?_)));refine af.cr (bt (ι _ _)) rfl ?_;refine af.Es (bt (ι _ _)) rfl ⟨rfl,rfl,by simp[Frame.enter],rfl⟩ rfl rfl rfl Ob ?_;refine af.bJ (bt (ι _ _)) rfl ?_;(repeat (first|refine af.seq (bt (ι _ _)) rfl ?_|refine af.block (bt (ι _ _)) rfl ?_|refine af.inBlock (bt (ι _ _)) rfl ?_|refine af.skip (bt (ι _ _)) rfl ?_|refine af.m6 (bt (ι _ _)) rfl rfl ?_|refine af.m7 (bt (ι _ _)) rfl rfl ?_|(refine af.region (bt (ι _ _)) rfl Ρ rfl (by simp[Frame.enter]) λΕ ζ=>?_;(try simp);(repeat (refine g9 ?_;simp[pj]));refine ζ _ ?_)));refine af.cr (bt (ι _ _)) rfl ?_;refine af.part (bt (ι _ _)) rfl Ρ rfl (by simp[Frame.enter]) [0,1,2,3,4,5] [6,7] rfl λΕ ζ=>?_;(repeat (refine g9 ?_;simp[Y3,Y1,Y2]));refine ζ _ ?_;refine af.call (bt (ι _ _)) rfl ⟨rfl,rfl,by simp[Frame.enter],rfl⟩ rfl rfl (vs:=[ptr s 0,.int .u64 18446744069414584320]) rfl Tryz.func166 rfl rfl (by simp[Tryz.ntmps166]) λt2 uD ea=>?_;refine Y7 Ξ (λv=>ι v 1) id λφ ξ rK=>?_;have ς:=rK.jE.sY;rw[b7] at ς;have fv:1<=ξ.cnt:=ς.live;have gP:=Ξ.EG rK.spec;have OK:=ς.cnt;have oO:=ς.wt;obtain⟨cc,mI⟩:=aK (ξ.cnt-1);have AO:ξ.cnt<8/\0<ξ.cnt/\cc<8/\ξ.wt<2:=R;have OS:cW {ξ with cnt:=cc}=IntKind.u64.wrap (cW ξ+18446744069414584320):=by
   rw[uB,uB,YF ξ.cnt AO.1 ξ.wt AO.2.2.2 AO.2.1,mI]
  by_cases jS:ξ.cnt=1/\ξ.wt=1
  ·have ic:cc=0:=by omega
   refine⟨{ξ with cnt:=cc},.ch k .done .l2,OS,rfl,⟨rfl,rfl,rfl⟩,by rw[mI];exact .RB jS.1 jS.2,λcu eD=>.inl ⟨λv=>ο v 1,?_⟩⟩;have qT:cW {ξ with cnt:=cc}=ij 0 1:=by rw[uB,ic];simp only[jS.2]
   rw[qT];refine af.back rfl rfl uD ea ?_;refine af.part (bt (ο _ _)) rfl Ρ rfl (by simp[Frame.enter]) [7] [] rfl λΕ ζ=>?_;(repeat (refine g9 ?_;simp));refine ζ _ ?_;refine af.bJ (bt (ο _ _)) rfl ?_;refine Y8 Ξ ?_ rfl rfl rfl rfl;exact af.back (nt:=4) rfl rfl ψ.size (AI η ψ.cA) (af.bJ ed rfl (af.ON rfl rfl rfl rfl Tryz.func142 rfl pj Κ))
  ·refine⟨{ξ with cnt:=cc},.ch k .done .gone,OS,rfl,⟨rfl,rfl,rfl⟩,by rw[mI];exact .RD R,λcu eD=>.inr ⟨Ξ.gone,?_⟩⟩;have qT:cW {ξ with cnt:=cc}=ij cc ξ.wt:=rfl;rw[qT];refine af.back rfl rfl uD ea ?_;refine af.part ed rfl Ρ rfl (by simp[Frame.enter]) [7] [] rfl λΕ ζ=>?_;(repeat (refine g9 ?_;simp));refine ζ _ ?_;refine af.bJ ed rfl ?_;refine Y4 ?_ (cc:=cc) (w0:=ξ.wt) AO.2.2.1 AO.2.2.2 R rfl rfl rfl rfl;exact af.back (nt:=4) rfl rfl ψ.size (AI η ψ.cA) (af.bJ ed rfl (af.ON rfl rfl rfl rfl Tryz.func142 rfl pj Κ))
 ·cases i with
  | zero=>simp at J U;subst J;subst U;exact .z _
  | succ i=>simp at J
end
end Go.TL
