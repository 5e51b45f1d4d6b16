import Derived.Test.YtlabjopijpkiaaaGreatCAV
set_option maxHeartbeats 16000000
set_option maxRecDepth 20000
set_option linter.unusedSectionVars false
set_option linter.unusedSimpArgs false
set_option linter.unusedVariables false
namespace Go.TL
open Go.Conc Go.Proofs
open Go.ConcN (sumTo upd sumTo_upd upd_ne upd_same sumTo_congr le_sumTo)
noncomputable def Br:Code:=Tryz.f146.body.getD .skip
noncomputable def n6:Code:=ea [1,0,0] Br
noncomputable def wY:List Item:=[.inLoop n6,.inBlock 0]
theorem O5:ga .u64 0 2147483648=0:=br
theorem O6:ga .u64 0 2147483647=0:=br
theorem Fc:IntKind.u32.wrap 0=0:=br
theorem O7:IntKind.i32.wrap 0=0:=br
section
variable {Q:Value->Prop} {mn:Bool} {x:a2} {c:Frame} {rest:List Frame} {S:aL} {B:aW} {σ:List Row} {H:Α} {s n p:Nat} {sp:Spec} {v:Option (Nat×aV)} {t:Tok}
abbrev vi (Q:Value->Prop) (mn:Bool) (x:a2) (c:Frame) (rest:List Frame) (S:aL) (H:Α) (s:Nat) (t:Tok) (v:Option (Nat×aV)) (d:Nat) (K:List Item) (env:Χ):Prop:=
 V Tryz.prog Q mn (one (bu x s t v d)) (Frame.enter Tryz.prog 146 #[ptr s 0] .normal) (c::rest) 84 ⟨S,[],H,[],0⟩ K env []
def sd (Q:Value->Prop) (mn:Bool) (x:a2) (c:Frame) (rest:List Frame) (S:aL) (H:Α) (s n:Nat) (sp:Spec):Prop:=
 ∀(aF:aL) (H':Α) (gz fM:List Nat) (g1 eM:Α),Ext S [] H aF [] H'->Holds aF [] [] H'->gz.Perm (List.range n)->lZ sp.D gz g1->(sp.aZ≠none->fM.Perm (List.range n)/\sp.ar fM eM)->(sp.aZ=none->eM=Α.empty)->Apart H' g1->Apart H' eM->Apart g1 eM->(∃w,Fits H' w/\Fits g1 w/\Fits eM w)->
  ∀(v:Option (Nat×aV)) (cU:aL) (bH:Α),Ext fp [] (join (join H' g1) eM) cU [] bH->cC Tryz.prog Q mn (bu x s (.par n 0 .bm) v 0) (c.finish (.tuple #[])) rest bH
theorem sd.later {cU:aL} {bH:Α} (h:sd Q mn x c rest S H s n sp) (he:Ext S [] H cU [] bH):sd Q mn x c rest cU bH s n sp:=
 λaF H' gz fM g1 eM a1 a9 cK gx h6 mM vH ub zr Ga v k3 jR zs=>h aF H' gz fM g1 eM (he.trans a1) a9 cK gx h6 mM vH ub zr Ga v k3 jR zs
theorem O8 (ε:mD x s sp) (Ι:∀(v:Option (Nat×aV)) (cU:aL) (bH:Α),Ext fp [] H cU [] bH->cC Tryz.prog Q mn (bu x s (.par n 0 .bm) v 0) (c.finish (.tuple #[])) rest bH) {K:List Item} {env:Χ}:vi Q mn x c rest fp H s (.par n 0 .bm) v 0 (.code .ret::K) env:=by
 letI:bp:=eX;have γ:=ε.seq;refine V.IF (γ _ _ _) rfl rfl rfl rfl Tryz.func146 rfl λbM bS H1 κ Β=>?_;obtain rfl:bS=[]:=dO.1 Β.len;rintro y rfl;exact Ι v bM H1 κ.ext
theorem O9 (ε:mD x s sp) (di:sd Q mn x c rest S H s n sp):vi Q mn x c rest S H s (.par n 0 .mI) v 1 (.code (ea [0,1] n6)::.inBlock 1::wY) [(0,.z (ptr s 0)),(2,.z (.int .u64 0))]:=by
 letI:bp:=eX;have γ:=ε.seq;refine V.cd (γ _ _ _) ?_;unfold n6 Br;refine hU (υ @O5 (υ @O6 (υ @Fc @O7))) ?_;refine W.cy (.stop ?_);refine V.enable (γ _ _ _).here (Nat.succ_pos _) ⟨⟨rfl,rfl,by simp[Frame.enter],rfl⟩,vd,⟨_,rfl⟩,rfl,rfl,rfl⟩ ?_;rw[Bb];refine V.cd (γ _ _ _) ?_;refine W.bF ?_;refine W.cy ?_;refine fw [0] [1,2] ?_;refine W.stop ?_;refine V.conv (γ _ _ _).here (sp:=sp) ε.spec (by rw[cf];exact id) ⟨rfl,rfl,by simp[Frame.enter],rfl⟩ rfl rfl rfl IQ ve IS rfl (λο w ψ bE=>⟨_,bE.cQ⟩) (λφ ο ν=>?_);unfold iP;rw[kN];refine V.CP ε.rel rfl (sp:=sp) ε.spec cf (.inl rfl) ⟨⟨rfl,rfl,by simp[Frame.enter],rfl⟩,E0,⟨_,rfl⟩,rfl,rfl,rfl⟩ λbM bS H1 t1 gz fM g1 eM κ π bC dt fK mU u1 I2 I3 I4=>?_;rw[hj];obtain rfl:bS=[]:=dO.1 π.holds.len;have Ι:=di bM H1 gz fM g1 eM κ.ext π.holds bC dt fK mU u1 I2 I3 I4;refine V.here (x:=one _) (S:=fp) (B:=[]) (σ:=[]) (m:=0) (nt:=84) ?_ (π.none ζ) _ rfl;refine V.cd (γ _ _ _) ?_;refine W.bF ?_;refine hU (υ @O5 (υ @O6 (υ @Fc @O7))) ?_;exact .stop (O8 ε Ι)
theorem Zo (ε:mD x s sp) (di:sd Q mn x c rest S H s n sp):vi Q mn x c rest S H s (.par n 0 .w4) v 1 (.code (ea [0,1,1,1,1,1,0,1,1,1,1] n6)::.inBlock 1::wY) [(0,.z (ptr s 0))]:=by
 letI:bp:=eX;have γ:=ε.seq;refine V.cd (γ _ _ _) ?_;unfold n6 Br;refine c7 ?_;refine W.cy ?_;refine fw [0,1,2] [3,4,5] ?_;refine W.stop ?_;refine V.call (γ _ _ _) ⟨rfl,rfl,by simp[Frame.enter],rfl⟩ rfl rfl rfl ⟨_,Tryz.func168,rfl,rfl⟩ λbM bS H1 t1 pB κ π hv=>?_;obtain rfl:=nj (l:=[ptr s 0]) hv;obtain rfl:bS=[]:=dO.1 π.holds.len;rintro y rfl;refine I0 ε id π.holds λφ ο ν=>.inl λcU bH kq jL=>?_;have χ:=ν.jS.tC;rw[cf] at χ;obtain⟨Ρ,aa,aX⟩:=χ.fin n 0 (.inr (.inl rfl));have Ο:cT ο=0:=by simp only[cT,Ρ,aX];rfl
 rw[Ο,iY rfl];have yO:=di.later (κ.ext.trans kq);refine V.here (x:=one _) (m:=0) (nt:=84) ?_ ((π.put (a:=.z (.int .u64 0)) rfl (.z _)).gp ζ jL) _ rfl;refine V.cd (γ _ _ _) ?_;refine W.part (A:=[]) Υ [4,5] [] rfl λΘ θ=>?_;(try simp);(repeat (rw[al];simp[]));(try simp[]);apply θ;refine W.bF ?_;refine hT ?_;refine W.cy (.stop ?_);refine V.enable (γ _ _ _).here (Nat.succ_pos _) ⟨⟨rfl,rfl,by simp[Frame.enter],rfl⟩,vd,⟨_,rfl⟩,rfl,rfl,rfl⟩ ?_;rw[Bb];refine V.cd (γ _ _ _) ?_;refine W.bF ?_;refine W.cy ?_;refine fw [0] [1,2] ?_;refine W.stop ?_;refine V.conv (γ _ _ _).here (sp:=sp) ε.spec (by rw[cf];exact id) ⟨rfl,rfl,by simp[Frame.enter],rfl⟩ rfl rfl rfl IQ ve IS rfl (λο w ψ bE=>⟨_,bE.cQ⟩) (λφ ο ν=>?_);unfold iP;rw[kN];refine V.CP ε.rel rfl (sp:=sp) ε.spec cf (.inr rfl) ⟨⟨rfl,rfl,by simp[Frame.enter],rfl⟩,E0,⟨_,rfl⟩,rfl,rfl,rfl⟩ λbM bS H1 t1 gz fM g1 eM κ π bC dt fK mU u1 I2 I3 I4=>?_;rw[hj];obtain rfl:bS=[]:=dO.1 π.holds.len;have Ι:=yO bM H1 gz fM g1 eM κ.ext π.holds bC dt fK mU u1 I2 I3 I4;refine V.here (x:=one _) (S:=fp) (B:=[]) (σ:=[]) (m:=0) (nt:=84) ?_ (π.none ζ) _ rfl;refine V.cd (γ _ _ _) ?_;refine W.bF ?_;refine hT ?_;exact .stop (O8 ε Ι)
theorem Zp {a b d:Nat} (h:a<=b) (J:b<7):a<8/\a<7:=R
theorem Zq {a b:Nat} (h:a<b):¬b=0:=R
theorem Zr (ε:mD x s sp) (di:sd Q mn x c rest S H s n sp) {φ:Nat} {ο:aV}:vi Q mn x c rest S H s (.par n 0 .w3) (some (φ,ο)) 1 (.code (ea [0,1,1,1,1,1,0,1,1,1,0] n6)::.code (ea [0,1,1,1,1,1,0,1,1,1,1] n6)::.inBlock 1::wY) [(0,.z (ptr s 0)),(5,.z (.bool false))]:=by
 letI:bp:=eX;have γ:=ε.seq;have woken:∀v,vi Q mn x c rest S H s (.par n 0 .w4) v 1 (.code (ea [0,1,1,1,1,1,0,1,1,1,1] n6)::.inBlock 1::wY) [(0,.z (ptr s 0))]:=λv=>Zo ε di;refine V.cd (γ _ _ _) ?_;unfold n6 Br;refine W.cy ?_;refine fw [0,1,2,3] [4] ?_;refine W.stop ?_;refine V.Yp (γ _ _ _).here (sp:=sp) ε.spec (by rw[cf];exact id) (vs:=[ptr s 1,.bool false]) rfl (λbk jD=>by rw[Bc jD];exact ε.still bk jD) ⟨⟨rfl,rfl,by simp[Frame.enter],rfl⟩,YW,⟨_,rfl⟩,rfl,rfl,rfl⟩ (λhl ο ν h=>by rw[cf];exact h) (λhl ο ν h=>?_);refine⟨{ο with cP:=ο.cP-1},.par n 0 .w4,rfl,rfl,⟨rfl,rfl,rfl⟩,by rw[cf];exact .wake h,λih eE=>?_⟩;rw[hj];refine V.cd (γ _ _ _) ?_;refine W.bF ?_;refine W.forget [(0,.z (ptr s 0))] ζ (.stop ?_);exact woken _
theorem Zs (ε:mD x s sp):∀(N φ:Nat) (ο:aV) (S:aL) (H:Α),φ<N->ο.toSpec=sp->0<ο.cnt->ο.cnt<=ο.top->ο.wt=0->sd Q mn x c rest S H s n sp->
  vi Q mn x c rest S H s (.par n 0 .add) (some (φ,ο)) 1 (.code (ea [0,1] n6)::.inBlock 1::wY) [(0,.z (ptr s 0)),(2,.z (.int .u64 (cT ο)))]:=by
 letI:bp:=eX;have γ:=ε.seq;intro N
 induction N with
 | zero=>intro φ ο S H h;exact absurd h (Nat.not_lt_zero _)
 | succ N Bj=>
  intro φ ο S H ck ψ CI wZ rl di;have gY:=Fb ε ψ;obtain⟨k1,cp⟩:=Zp (d:=0) wZ gY;have f1:=E8 ο.cnt k1 0 br;have f2:=E9 ο.cnt k1 0 br;have f3:=Fa ο.cnt k1 0 br;have f4:=Zk ο.cnt k1;have om:cT ο=iF ο.cnt 0:=by rw[vh,rl]
  have bA:¬ο.cnt=0:=Zq CI
  have ED:¬(ο.cnt:Int)=0:=λh=>bA (by exact_mod_cast h);rw[<-om] at f1 f2 f3 f4;have sleep:∀(S H) (φ:Nat) (ο:aV),sd Q mn x c rest S H s n sp->vi Q mn x c rest S H s (.par n 0 .w3) (some (φ,ο)) 1 (.code (ea [0,1,1,1,1,1,0,1,1,1,0] n6)::.code (ea [0,1,1,1,1,1,0,1,1,1,1] n6)::.inBlock 1::wY) [(0,.z (ptr s 0)),(5,.z (.bool false))]:=λS H φ ο di=>Zr ε di;have mI:∀(S H v),sd Q mn x c rest S H s n sp->vi Q mn x c rest S H s (.par n 0 .mI) v 1 (.code (ea [0,1] n6)::.inBlock 1::wY) [(0,.z (ptr s 0)),(2,.z (.int .u64 0))]:=λS H v di=>O9 ε di;refine V.cd (γ _ _ _) ?_;unfold n6 Br;refine hU (υ f2 (υ f3 (υ bA ED))) ?_;refine W.cy ?_;refine W.part (A:=[]) Υ [0,1,2,3,4,5] [6] rfl λΘ θ=>?_;(try simp);(repeat (rw[al];simp[f4]));(try simp[f4]);apply θ;refine W.stop ?_;refine V.call (γ _ _ _) ⟨rfl,rfl,by simp[Frame.enter],rfl⟩ rfl rfl rfl ⟨_,Tryz.func179,rfl,rfl⟩ λbM bS H1 t1 pB κ π hv=>?_;obtain rfl:=nj (l:=[ptr s 0,.int .u64 (cT ο),.int .u64 (iF ο.cnt 1)]) hv;obtain rfl:bS=[]:=dO.1 π.holds.len;rintro y rfl;refine Zm ε id π.holds (λhl gj ν hv cU bH kq jL=>?_) (λhl gj ν hv=>?_)
  ·have qm:=ν.view φ ο pH
   have au:hl<N:=by
    rcases Nat.lt_or_ge hl φ with h|h
    ·exact Nat.lt_of_lt_of_le h (Nat.le_of_lt_succ ck)
    ·exact absurd (by rw[qm.2 (Nat.le_antisymm qm.1 h)]) hv
   have yO:=di.later (κ.ext.trans kq);rw[iY rfl];refine V.here (x:=one _) (m:=0) (nt:=84) ?_ ((π.put (a:=.z (.bool false)) rfl (.z _)).gp ζ jL) _ rfl;refine V.cd (γ _ _ _) ?_;refine W.bF ?_;refine aA rfl ?_;refine c7 ?_;refine W.inLoop ?_;refine W.forget [(0,.z (ptr s 0))] ζ ?_;refine c7 ?_;refine W.cy ?_;refine fw [0,1,2] [3,4] ?_;refine W.stop ?_;refine V.call (γ _ _ _) ⟨rfl,rfl,by simp[Frame.enter],rfl⟩ rfl rfl rfl ⟨_,Tryz.func168,rfl,rfl⟩ λk3 k4 jR t3 I5 hX fC tq=>?_;obtain rfl:=nj (l:=[ptr s 0]) tq;obtain rfl:k4=[]:=dO.1 fC.holds.len;rintro y rfl;refine I0 ε id fC.holds λih fU eg=>?_;have e9:=eg.jS.tC;rw[cf] at e9;obtain⟨eP,du,gd,oA,uK⟩:=e9.add n 0 rfl;have ys:=eg.view hl gj pH;by_cases an:fU.cnt=0
   ·refine .inr ⟨.par n 0 .mI,.thru an,λyK Zt km kn oS ln=>?_⟩;have Ο:cT fU=0:=by simp only[cT,eP,an];rfl
    rw[Ο,iY rfl];have w5:=yO.later (hX.ext.trans oS);refine V.here (x:=one _) (m:=0) (nt:=84) ?_ ((fC.put (a:=.z (.int .u64 0)) rfl (.z _)).gp ζ ln) _ rfl;refine V.cd (γ _ _ _) ?_;refine W.part (A:=[]) Υ [4] [] rfl λΘ θ=>?_;(try simp);(repeat (rw[al];simp[]));(try simp[]);apply θ;refine W.bF ?_;refine W.forget [(0,.z (ptr s 0)),(2,.z (.int .u64 0))] ζ (.stop ?_);exact mI _ _ _ w5
   ·refine .inl λkm kn oS ln=>?_;rw[iY rfl];have w5:=yO.later (hX.ext.trans oS);refine V.here (x:=one _) (m:=0) (nt:=84) ?_ ((fC.put (a:=.z (.int .u64 (cT fU))) rfl (.z _)).gp ζ ln) _ rfl;refine V.cd (γ _ _ _) ?_;refine W.part (A:=[]) Υ [4] [] rfl λΘ θ=>?_;(try simp);(repeat (rw[al];simp[]));(try simp[]);apply θ;refine W.bF ?_;refine W.forget [(0,.z (ptr s 0)),(2,.z (.int .u64 (cT fU)))] ζ (.stop ?_);exact Bj ih fU km kn (Nat.lt_of_le_of_lt ys.1 au) eg.spec (Nat.pos_of_ne_zero an) e9.cnt eP w5
  ·have jo:=ν.jS.tC;rw[cf] at jo;obtain⟨eP,du,gd,oA,uK⟩:=jo.add n 0 rfl;have mS:gj.cnt=ο.cnt:=by rw[om,vh,eP] at hv;simp only[iF] at hv;omega
   refine⟨{gj with wt:=1},.par n 0 .w3,?_,rfl,⟨rfl,rfl,rfl⟩,.KY (by rw[mS];exact CI),λih jΓ cU bH kq jL=>?_⟩
   ·rw[vh];simp only[mS]
   rw[iY rfl];have yO:=di.later (κ.ext.trans kq);refine V.here (x:=one _) (m:=0) (nt:=84) ?_ ((π.put (a:=.z (.bool true)) rfl (.z _)).gp ζ jL) _ rfl;refine V.cd (γ _ _ _) ?_;refine W.bF ?_;refine aD rfl ?_;refine hT ?_;refine W.cy ?_;refine fw [0,1,2] [3,4] ?_;refine W.stop ?_;refine V.conv (γ _ _ _).here (sp:=sp) ε.spec (by rw[cf];exact id) ⟨rfl,rfl,by simp[Frame.enter],rfl⟩ rfl rfl rfl OK ve OL rfl (λο w ψ bE=>⟨_,bE.Ρ⟩) (λφ ο ν=>?_);unfold iP;rw[kN];refine V.Ym ε.rel cf ζ ⟨⟨rfl,rfl,by simp[Frame.enter],rfl⟩,YQ,⟨_,rfl⟩,rfl,rfl,rfl⟩ ?_;refine V.cd (γ _ _ _) ?_;refine W.bF ?_;refine hU f1 ?_;refine W.forget [(0,.z (ptr s 0)),(5,.z (.bool false))] ζ (.stop ?_);exact sleep _ _ _ _ yO
theorem Zu (ε:mD x s sp) (Β:Holds S B σ H) (di:sd Q mn x c rest S H s n sp) :
  cC Tryz.prog Q mn (bu x s (.par n 0 .add) v 0) (Frame.enter Tryz.prog 146 #[ptr s 0] .normal) (c::rest) H:=by
 letI:bp:=eX;have γ:=ε.seq;refine V.qL (z:=one _) (vs:=[ptr s 0]) Tryz.func146 rfl Β (by simp[Tryz.ntmps146]) ?_ _ rfl;refine V.cd (γ _ _ _) ?_;refine hT ?_;refine W.cy (.stop ?_);refine V.disable (γ _ _ _).here ⟨⟨rfl,rfl,by simp[Frame.enter],rfl⟩,Be,⟨_,rfl⟩,rfl,rfl,rfl⟩ ?_;rw[Ba];refine V.cd (γ _ _ _) ?_;refine W.bF ?_;refine c7 ?_;refine W.loop ?_;refine c7 ?_;refine W.cy ?_;refine fw [0,1,2] [3,4] ?_;refine W.stop ?_;refine V.call (γ _ _ _) ⟨rfl,rfl,by simp[Frame.enter],rfl⟩ rfl rfl rfl ⟨_,Tryz.func168,rfl,rfl⟩ λk3 k4 jR t3 I5 hX fC tq=>?_;obtain rfl:=nj (l:=[ptr s 0]) tq;obtain rfl:k4=[]:=dO.1 fC.holds.len;rintro y rfl;refine I0 ε id fC.holds λih fU eg=>?_;have e9:=eg.jS.tC;rw[cf] at e9;obtain⟨eP,du,gd,oA,uK⟩:=e9.add n 0 rfl;by_cases an:fU.cnt=0
 ·refine .inr ⟨.par n 0 .mI,.thru an,λyK Zt km kn oS ln=>?_⟩;have Ο:cT fU=0:=by simp only[cT,eP,an];rfl
  rw[Ο,iY rfl];have w5:=di.later (hX.ext.trans oS);refine V.here (x:=one _) (m:=0) (nt:=84) ?_ ((fC.put (a:=.z (.int .u64 0)) rfl (.z _)).gp ζ ln) _ rfl;refine V.cd (γ _ _ _) ?_;refine W.part (A:=[]) Υ [4] [] rfl λΘ θ=>?_;(try simp);(repeat (rw[al];simp[]));(try simp[]);apply θ;refine W.bF ?_;refine W.forget [(0,.z (ptr s 0)),(2,.z (.int .u64 0))] ζ (.stop ?_);exact O9 ε w5
 ·refine .inl λkm kn oS ln=>?_;rw[iY rfl];have w5:=di.later (hX.ext.trans oS);refine V.here (x:=one _) (m:=0) (nt:=84) ?_ ((fC.put (a:=.z (.int .u64 (cT fU))) rfl (.z _)).gp ζ ln) _ rfl;refine V.cd (γ _ _ _) ?_;refine W.part (A:=[]) Υ [4] [] rfl λΘ θ=>?_;(try simp);(repeat (rw[al];simp[]));(try simp[]);apply θ;refine W.bF ?_;refine W.forget [(0,.z (ptr s 0)),(2,.z (.int .u64 (cT fU)))] ζ (.stop ?_);exact Zs ε (ih+1) ih fU km kn (Nat.lt_succ_self _) eg.spec (Nat.pos_of_ne_zero an) e9.cnt eP w5
end
end Go.TL
namespace Go.TL
open Go.Conc Go.Proofs
open Go.ConcN (sumTo upd sumTo_upd upd_ne upd_same sumTo_congr le_sumTo)
variable [bp]
def cw.yP:cw->η->Prop
 | .ok a,b=>a=b
 | .b6 p r,b=>p/\r.yP b
 | .bad,_=>False
def jA (P:Program) {α:Type} (s:Sem α) (a:α):Prop:=∀w,s.run P w=.ok a w/\∀es,s.events P w es=es
section
variable {P:Program} {T:bb} {α β:Type}
theorem jA.pure (a:α):jA P (Pure.pure a) a:=λw=>⟨ζ,λes=>ζ⟩
theorem jA.bind {s:Sem α} {f:α->Sem β} {a:α} {b:β} (h:jA P s a) (k:jA P (f a) b):jA P (s >>= f) b:=λw=>⟨by simp[(h w).1,(k w).1,Result.andThen],λes=>by simp[(h w).1,(h w).2,(k w).2,Result.evThen]⟩
theorem jA.program:jA P Go.program P:=λw=>⟨ζ,λes=>ζ⟩
theorem jA.underlying {t:TypeId} {d:TypeDesc} (h:P.underlying t=some d):jA P (Go.underlying t) d:=λw=>⟨run_underlying h w,λes=>ζ⟩
theorem jA.sizeOf {t:TypeId} {i:TypeInfo} (hi:P.info? t=some i):jA P (Go.sizeOf t) i.size:=by
 unfold Go.sizeOf Go.typeInfo;refine jA.bind (jA.bind .program ?_) (jA.pure _);show jA P (match P.info? t with|some i=>Pure.pure i|none=>_) i;rw[hi];exact .pure _
theorem Zv {op:BinOp} {ty:TypeId} {p q:Operand} {x y v:Value} (h:(sV op x y).yP (.z v)):jA P (do eqGuard op ty p q x y;binOp op ty x y) v:=by
 unfold sV at h;split at h
 case h_25=>exact h.elim
 case h_1=>
  obtain⟨J,U⟩:=h;cases U;have c9:¬(_:Int)<0:=Int.not_lt.2 J;simp only[eqGuard,binOp,Op.shift,c9,if_false];exact .pure _
 case h_2=>
  obtain⟨J,U⟩:=h;cases U;have c9:¬(_:Int)<0:=Int.not_lt.2 J;simp only[eqGuard,binOp,Op.shift,c9,if_false];exact .pure _
 case h_6=>
  split at h
  ·rename_i e;subst e;obtain⟨J,U⟩:=h;cases U;simp only[eqGuard,binOp,Op.intDiv,J,if_false,ne_eq,not_true_eq_false];exact .pure _
  ·exact h.elim
 case h_7=>
  split at h
  ·rename_i e;subst e;obtain⟨J,U⟩:=h;cases U;simp only[eqGuard,binOp,Op.intDiv,J,if_false,ne_eq,not_true_eq_false];exact .pure _
  ·exact h.elim
 case h_18=>
  obtain⟨J,U⟩:=h;cases U;have c9:¬((_:Int) > IntKind.i64.max):=Int.not_lt.2 J;simp only[eqGuard,binOp,Op.stringOp,c9,if_false];exact .pure _
 all_goals first
  |(cases h;exact .pure _)
  |(split at h
    ·rename_i e;subst e;cases h;simp only[eqGuard,binOp,Op.intArith,Op.intBits,Op.intCmp,ne_eq,not_true_eq_false,if_false];exact .pure _
    ·exact h.elim)
def yQ (T:bb) (env:Χ) (o:Oper):cw:=match o.op with
 | .move x=>.ok (aR env x)
 | .assign x=>.ok (aR env x)
 | .pick c a b=>yg (aR env c) (aR env a) (aR env b)
 | .binOp op _ x y _=>match aR env x,aR env y with
  | .z a,.z b=>sV op a b
  | _,_=>.bad
 | .unOp op _ x=>x1 op (aR env x)
 | .convert s d x=>x9 T s d (aR env x)
 | .nilCheck x=>match aR env x with
  | .z (.pointer (some a))=>.ok (.z (.pointer (some a)))
  | _=>.bad
 | .fieldAddr ty x f=>match aR env x with
  | .z (.pointer (some ⟨b,o',none⟩))=>match gE T ty f with|some (o,_)=>.ok (.z (.pointer (some ⟨b,o'+o,none⟩)))|none=>.bad
  | _=>.bad
 | _=>.bad
theorem Zw (Ι:bN P T) {env:Χ} {o:Oper} {v:Value} (h:(yQ T env o).yP (.z v)) {ρ:Operand->Value} (n7:∀y u,aR env y=.z u->ρ y=u):jA P (execOp ρ o) (.value v):=by
 have val:∀{s:Sem Value} {u:Value},jA P s u->jA P (do Pure.pure (Next.value (<-s))) (.value u):=λν=>.bind ν (.pure _);unfold yQ at h;unfold execOp;split at h<;>rename_i ψ<;>first|(rw[ψ];simp only)|exact h.elim
 ·rw[n7 _ _ h];exact .pure _
 ·rw[n7 _ _ h];exact .pure _
 ·rename_i c a b;unfold yg at h;split at h
  ·rename_i bv ε;rw[n7 _ _ ε];refine jA.bind (a:=bv) (jA.pure _) ?_;split at h
   ·rename_i y z Κ Φ;cases h;rw[n7 _ _ Κ,n7 _ _ Φ];cases bv<;>exact .pure _
   ·cases bv with
    | true=>rw[n7 a v h];exact .pure _
    | false=>rw[n7 b v h];exact .pure _
  ·exact h.elim
 ·split at h
  ·rename_i x y γ Κ;rw[n7 _ _ γ,n7 _ _ Κ];exact val (Zv h)
  ·exact h.elim
 ·unfold x1 at h;split at h
  ·rename_i bv hb;rw[n7 _ _ hb];split at h
   ·cases h;exact val (.pure _)
   ·exact h.elim
  ·rename_i k n hb;rw[n7 _ _ hb];split at h
   ·cases h;exact val (.pure _)
   ·exact h.elim
  ·exact h.elim
 ·unfold x9 at h;split at h
  ·rename_i i j hi δ;split at h
   ·rename_i k kk n hu γ;cases h;rw[n7 _ _ γ];refine val ?_;unfold convert;refine .bind (.underlying (Ι _ _ hi).1.1) (.bind (.underlying (Ι _ _ δ).1.1) ?_);rw[hu];exact .pure _
   ·exact h.elim
  ·exact h.elim
 ·split at h
  ·rename_i a γ;cases h;rw[n7 _ _ γ];exact .pure _
  ·exact h.elim
 ·split at h
  ·rename_i b o' γ;rw[n7 _ _ γ];split at h
   ·rename_i dW z9 Τ;cases h;refine val ?_;unfold gE at Τ;split at Τ<;>try cases Τ
    rename_i i hi;split at Τ<;>try cases Τ
    rename_i df hu;split at Τ<;>try cases Τ
    rename_i x γ;split at Τ<;>try cases Τ
    rename_i bB m0;split at Τ<;>try cases Τ
    rename_i iz;unfold Instr.fieldAt;refine .bind (.underlying (Ι _ _ hi).1.1) ?_;rw[hu];simp only[γ];refine .bind (a:=⟨b,o',none⟩) (.pure _) ?_;obtain⟨f,lJ,pq,_⟩:=(Ι _ _ m0).2;refine .bind (a:=⟨b,o'+x.offset,none⟩) ?_ (.pure _);unfold fieldPlace;refine .bind (.sizeOf lJ) ?_;rw[pq,if_neg iz,uF];exact .pure _
   ·exact h.elim
  ·exact h.elim
end
theorem Zx (vs:List Value) {nt:Nat} (Ζ:vs.length<=nt):dv fp [] [] (entry 0 (vs.map η.z)) (vs.toArray++Array.replicate (nt-vs.length) undef):=by
 have ι:fQ fp [] [] (vs.map η.z) vs.toArray:=⟨ζ,λi a v J U=>by
  simp only[List.getElem?_map,List.getElem?_toArray] at J U;rw[U] at J;cases J;exact .z v⟩
 have:=(fO.enter (yM Α.empty) (m:=0) (nt:=nt) ι (Nat.le_refl _) (by simpa using Ζ)).cx;simpa using this
def I6 (P:Program) (mn:Bool) (dF:Goroutine->Prop):Prop:=∀g g',jl g->(∀w,stepG P mn g w=.go g' w #[])->dF g'->dF g
def ad (dF:Goroutine->Prop) (b:Frame) (cs:List Frame) (nt:Nat) (k:List Item) (env:Χ):Prop:=∀t:Array Value,t.size=nt->dv fp [] [] env t->dF (Go.Conc.G (ax b t k) cs)
def np (T:bb) (nt:Nat) (ops:Array Oper):List Nat->Χ->(Χ->Prop)->Prop
 | [],env,K=>K env
 | i::is,env,K=>gg ops[i]? λo=>hc nt o=true/\gg (fe env ops o) λw=>
   ic w (np T nt ops is (b0 o env .cg) K) (∃v,(yQ T env o).yP (.z v)/\np T nt ops is (b0 o env (.z v)) K)
theorem w6 {T:bb} {nt:Nat} {ops:Array Oper} {env:Χ} {K:Χ->Prop}:np T nt ops [] env K=K env:=Eq.trans rfl rfl
def w7 (T:bb) (nt:Nat) (ops:Array Oper) (is:List Nat) (o:Oper) (env:Χ) (K:Χ->Prop):cw->Prop
 | .ok (.z v)=>np T nt ops is (b0 o env (.z v)) K
 | .b6 p (.ok (.z v))=>p/\np T nt ops is (b0 o env (.z v)) K
 | _=>False
theorem Zy {T:bb} {nt:Nat} {ops:Array Oper} {is:List Nat} {o:Oper} {env:Χ} {K:Χ->Prop} {v:Value}:w7 T nt ops is o env K (.ok (.z v))=np T nt ops is (b0 o env (.z v)) K:=Eq.trans rfl rfl
theorem Zz {T:bb} {nt:Nat} {ops:Array Oper} {is:List Nat} {o:Oper} {env:Χ} {K:Χ->Prop} {v:Value} {p:Prop}:w7 T nt ops is o env K (.b6 p (.ok (.z v)))=(p/\np T nt ops is (b0 o env (.z v)) K):=Eq.trans rfl rfl
theorem ZA {T:bb} {nt:Nat} {ops:Array Oper} {is:List Nat} {o:Oper} {env:Χ} {K:Χ->Prop} {r r':cw} (h:r=r'):w7 T nt ops is o env K r=w7 T nt ops is o env K r':=by rw[h]
theorem ZB {T:bb} {nt:Nat} {ops:Array Oper} {is:List Nat} {o:Oper} {env:Χ} {K:Χ->Prop} {r:cw} (h:w7 T nt ops is o env K r):∃v,r.yP (.z v)/\np T nt ops is (b0 o env (.z v)) K:=by
 unfold w7 at h;split at h
 ·exact⟨_,rfl,h⟩
 ·exact⟨_,⟨h.1,rfl⟩,h.2⟩
 ·exact h.elim
theorem hn {T:bb} {nt:Nat} {ops:Array Oper} {i:Nat} {is:List Nat} {env:Χ} {K:Χ->Prop} (h:gg ops[i]? λo=>hc nt o=true/\gg (fe env ops o) λw=>ic w (np T nt ops is (b0 o env .cg) K) (w7 T nt ops is o env K (yQ T env o))):np T nt ops (i::is) env K:=by
 unfold np;unfold gg at h ⊢;split at h
 ·exact h.elim
 rename_i o ψ;refine⟨h.1,?_⟩
 replace h:=h.2
 split at h
 ·exact h.elim
 rename_i w hw;exact⟨h.1,λe=>ZB (h.2 e)⟩
section
variable {P:Program} {T:bb} {mn:Bool} {dF:Goroutine->Prop} {b:Frame} {cs:List Frame} {nt:Nat} {k:List Item} {env:Χ} {ops:Array Oper} {i:Nat} {rest:List Nat} {op:Oper}
variable (gI:I6 P mn dF) (hb:b.mode=.run)
include gI hb
theorem ad.to {af:List Item} (ν:∀t w,stepG.exec P mn true (ax b t k) cs none w=.go (Go.Conc.G (ax b t af) cs) w #[]) (h:ad dF b cs nt af env):ad dF b cs nt k env:=
 λt J U=>gI _ _ ⟨rfl,rfl⟩ (λw=>(jN hb w).trans (ν t w)) (h t J U)
theorem ad.skip (h:ad dF b cs nt k env):ad dF b cs nt (.code .skip::k) env:=.to gI hb (λ_ _=>rfl) h
theorem ad.inBlock {l:Nat} (h:ad dF b cs nt k env):ad dF b cs nt (.inBlock l::k) env:=.to gI hb (λ_ _=>rfl) h
theorem ad.seq {a c:Code} (h:ad dF b cs nt (.code a::.code c::k) env):ad dF b cs nt (.code (.seq a c)::k) env:=.to gI hb (λ_ _=>rfl) h
theorem ad.block {l:Nat} {c:Code} (h:ad dF b cs nt (.code c::.inBlock l::k) env):ad dF b cs nt (.code (.block l c)::k) env:=.to gI hb (λ_ _=>rfl) h
theorem ad.loop {c:Code} (h:ad dF b cs nt (.code c::.inLoop c::k) env):ad dF b cs nt (.code (.loop c)::k) env:=.to gI hb (λ_ _=>rfl) h
theorem ad.inLoop {c:Code} (h:ad dF b cs nt (.code c::.inLoop c::k) env):ad dF b cs nt (.inLoop c::k) env:=.to gI hb (λ_ _=>rfl) h
theorem ad.cy {id:Nat} {ops:Array Oper} (h:ad dF b cs nt (.inRegion ops (idx ops.size [])::k) env):ad dF b cs nt (.code (.region id ops false)::k) env:=.to gI hb (λ_ _=>by rw[idx_eq];rfl) h
theorem ad.bF {ops:Array Oper} (h:ad dF b cs nt k env):ad dF b cs nt (.inRegion ops []::k) env:=.to gI hb (λ_ _=>rfl) h
theorem ad.exit {l:Nat} {af:List Item} (he:exitTo l k=some af) (h:ad dF b cs nt af env):ad dF b cs nt (.code (.exit l)::k) env:=by
 refine .to gI hb (λt w=>?_) h;unfold stepG.exec;simp only[ax,he,Option.elim];rfl
theorem ad.cond {c:Operand} {a e:Code} {v:Bool} (ε:aR env c=.z (.bool v)) (h:ad dF b cs nt (.code (if v then a else e)::k) env):ad dF b cs nt (.code (.cond c a e)::k) env:=by
 intro t J U;refine gI _ _ ⟨rfl,rfl⟩ (λw=>?_) (h t J U);rw[jN hb w];have a3:(ax b t (.code (.cond c a e)::k)).eval c=.bool v:=by rw[zY];exact EO U ε
 unfold stepG.exec;simp only[ax] at a3 ⊢;rw[a3];rfl
theorem ad.nq {c:Operand} {a e:Code} (ε:aR env c=.z (.bool true)) (h:ad dF b cs nt (.code a::k) env):ad dF b cs nt (.code (.cond c a e)::k) env:=.cond gI hb ε h
theorem ad.ns {c:Operand} {a e:Code} (ε:aR env c=.z (.bool false)) (h:ad dF b cs nt (.code e::k) env):ad dF b cs nt (.code (.cond c a e)::k) env:=.cond gI hb ε h
theorem I7 {t:Array Value} (h:dv fp [] [] env t) (hd:hc nt op=true) (Ν:t.size=nt) {a:η} {v:Value} (κ:av fp [] [] a v):(put op t v).size=nt/\dv fp [] [] (b0 op env a) (put op t v):=⟨(rI h hd Ν κ).2,(rI h hd Ν κ).1⟩
theorem ad.unwanted (ψ:ops[i]?=some op) (hw:fe env ops op=some false) (hd:hc nt op=true) (h:ad dF b cs nt (.inRegion ops rest::k) (b0 op env .cg)):ad dF b cs nt (.inRegion ops (i::rest)::k) env:=by
 intro t J U;obtain⟨s1,s2⟩:=I7 (b:=b) gI hb U hd J (a:=.cg) (v:=undef) (.cg _);refine gI _ _ ⟨rfl,rfl⟩ (λw=>?_) (h _ s1 s2);rw[jN hb,<-iY ψ];have vP:((ops[i]?).map (Region.wanted · (yielded ops t))).getD false=false:=by simp[ψ,kF U hw]
 unfold stepG.exec;simp only[ax,vP];rfl
theorem ad.opn (Ι:bN P T) (cu:b.roundOf=none) (χ:b.kind≠.early) (ψ:ops[i]?=some op) (hw:fe env ops op=some true) (hd:hc nt op=true) {v:Value} (hv:(yQ T env op).yP (.z v)) (h:ad dF b cs nt (.inRegion ops rest::k) (b0 op env (.z v))):ad dF b cs nt (.inRegion ops (i::rest)::k) env:=by
 intro t J U;obtain⟨s1,s2⟩:=I7 (b:=b) gI hb U hd J (a:=.z v) (v:=v) (.z v);refine gI _ _ ⟨rfl,rfl⟩ (λw=>?_) (h _ s1 s2);have ν:=Zw Ι hv (ρ:=bl t) λy u Κ=>EO U Κ;rw[gX hb cu,gX hb cu,<-va,stepG_value (a:=⟨t,b.defers⟩) ψ (kF U hw) χ (by rw[mB];exact(ν w).1)];unfold listed;rw[mB,(ν w).2,seen_none]
theorem ad.part (Ι:bN P T) (cu:b.roundOf=none) (χ:b.kind≠.early) (is kG:List Nat) {l:List Nat} (ξ:l=is++kG) (h:∀Θ:Χ->Prop,(∀env,ad dF b cs nt (.inRegion ops kG::k) env->Θ env)->np T nt ops is env Θ):ad dF b cs nt (.inRegion ops l::k) env:=by
 subst ξ;have key:∀(is:List Nat) (env:Χ),np T nt ops is env (λenv=>ad dF b cs nt (.inRegion ops kG::k) env)->ad dF b cs nt (.inRegion ops (is++kG)::k) env:=by
  intro is
  induction is with
  | nil=>intro env h;exact h
  | cons i is ω=>
   intro env h;unfold np gg at h;split at h
   ·exact h.elim
   rename_i o ψ;obtain⟨hd,h⟩:=h;split at h
   ·exact h.elim
   rename_i w hw;cases w with
   | false=>exact .unwanted gI hb ψ hw hd (ω _ (h.1 rfl))
   | true=>
    obtain⟨v,J,U⟩:=h.2 rfl;exact .opn gI hb Ι cu χ ψ hw hd J (ω _ U)
 exact key is env (h _ λ_ h=>h)
theorem ad.region (Ι:bN P T) (cu:b.roundOf=none) (χ:b.kind≠.early) {id:Nat} (h:∀Θ:Χ->Prop,(∀env,ad dF b cs nt k env->Θ env)->np T nt ops (idx ops.size []) env Θ):ad dF b cs nt (.code (.region id ops false)::k) env:=by
 refine .cy gI hb (.part gI hb Ι cu χ (idx ops.size []) [] ζ λΘ θ=>h Θ λenv Ξ=>θ env (.bF gI hb Ξ))
theorem ad.EX (bY:ni b ops i op) (hw:fe env ops op=some true) (hd:hc nt op=true) {f:FuncId} {args:Array Operand} {ej:Array TypeId} (Μ:op.op=.call ⟨.value (.func f),args,ej⟩) {v:Value} (he:Entry P f (λ_=>pure v)) (h:ad dF b cs nt (.inRegion ops rest::k) (b0 op env (.z v))):ad dF b cs nt (.inRegion ops (i::rest)::k) env:=by
 intro t J U;obtain⟨s1,s2⟩:=I7 (b:=b) gI hb U hd J (a:=.z v) (v:=v) (.z v);exact gI _ _ ⟨rfl,rfl⟩ (λw=>EN he bY (kF U hw) Μ (vs:=args.map (bl t)) rfl ζ ζ ζ) (h _ s1 s2)
theorem ad.IG (bY:ni b ops i op) (hw:fe env ops op=some true) (rJ:op.dst=none) {f:FuncId} {ej:Array TypeId} (Μ:op.op=.defer ⟨.value (.func f),#[],ej⟩)
  (h:ad dF {b with defers:=Go.Conc.dcall f #[]::b.defers} cs nt (.inRegion ops rest::k) env):ad dF b cs nt (.inRegion ops (i::rest)::k) env:=by
 intro t J U;refine gI _ (Go.Conc.G (ax {b with defers:=Go.Conc.dcall f #[]::b.defers} t (.inRegion ops rest::k)) cs) ⟨rfl,rfl⟩ (λw=>?_) (h t J U);rw[gX bY.run bY.ro,stepG_defer (a:=⟨t,b.defers⟩) bY.op (kF U hw) bY.kd Μ];have:(⟨t,Go.Conc.dcall f #[]::b.defers⟩:_root_.Go.Act).put op.dst undef=⟨t,Go.Conc.dcall f #[]::b.defers⟩:=by rw[rJ];rfl
 simp only[Array.map_empty,List.map_toArray,List.map_nil];rw[this,gX (b:={b with defers:=Go.Conc.dcall f #[]::b.defers}) bY.run bY.ro];rfl
theorem ad.call (bY:ni b ops i op) (hw:fe env ops op=some true) {args:Array Operand} {ej:Array TypeId} {g:FuncId} (Μ:op.op=.call ⟨.value (.func g),args,ej⟩) {vs:List Value} (qJ:A8 env args vs) {fn:Func} {body:Code} (bL:P.funcs[g]?=some fn) (wh:(fn.name == "runtime.NumGoroutine")=false) (nR:fn.body=some body) (Ζ:vs.length<=fn.ntmps)
  (h:∀t:Array Value,t.size=nt->dv fp [] [] env t->ad dF (Frame.enter P g vs.toArray .normal) (ax b t (.inRegion ops (i::rest)::k)::cs) fn.ntmps [.code body] (entry 0 (vs.map η.z))):ad dF b cs nt (.inRegion ops (i::rest)::k) env:=by
 intro t J U;have aY:=h t J U (vs.toArray++Array.replicate (fn.ntmps-vs.length) undef) (by simp;omega) (Zx vs Ζ);rw[show vs.toArray++Array.replicate (fn.ntmps-vs.length) undef=vs.toArray++Array.replicate (fn.ntmps-vs.toArray.size) undef by simp,<-qB bL nR] at aY;refine gI _ _ ⟨rfl,rfl⟩ (λw=>?_) aY;have lB:(fn.name == "runtime.NumGoroutine")=false:=wh;have D7:fn.body.isNone=false:=by rw[nR];rfl
 have ι:(execOp (bl t) op).run P w=.ok (.enter g vs.toArray) w/\(execOp (bl t) op).events P w #[]=#[]:=by
  have e:execOp (bl t) op=callFunc g vs.toArray:=by
   unfold execOp;rw[Μ];have:args.map (bl t)=vs.toArray:=qJ.bl U;simp only[resolve];rw[this];simp[Deferred.ofValue,Go.TL.bl,invoke]
  rw[e];unfold callFunc;have J:¬fn.name = "runtime.NumGoroutine" := by simpa using lB
  simp[bL,J,nR]
 rw[gX bY.run bY.ro,stepG_enter (a:=⟨t,b.defers⟩) bY.op (kF U hw) bY.kd (by rw[mB];exact ι.1)];unfold listed;rw[mB,ι.2,seen_none]
theorem ad.tz (cu:b.roundOf=none) (eV:b.defers=[]) (g6:b.kind=.normal) {fn:Func} (bL:P.funcs[b.fn]?=some fn) {d:Nat} (fc:fn.results=#[.tmp d]) {v:Value} (hv:a5 env d=.z v) {c:Frame}
  (h:dF (Go.Conc.G (c.finish v) cs)):ad dF b (c::cs) nt (.code .ret::k) env:=by
 intro t J U;have l4:t.getD d undef=v:=by
  have:=U d;rw[hv] at this;generalize t.getD d undef=u at this;cases this;rfl
 refine gI _ (Go.Conc.G {ax b t (.code .ret::k) with mode:=.returning} (c::cs)) ⟨rfl,rfl⟩ (λw=>?_) (gI _ _ ⟨rfl,rfl⟩ (λw=>?_) h)
 ·rw[jN hb];unfold stepG.exec;simp only[ax,cu];rfl
 ·rw[gX hb cu,stepG_leave (a:=⟨t,b.defers⟩) g6 eV bL (results_tmp fc _ P w) (events_results_tmp fc _ _),l4]
theorem ad.EW (cu:b.roundOf=none) (eV:b.defers=[]) (g6:b.kind=.normal) {fn:Func} (bL:P.funcs[b.fn]?=some fn) (fc:fn.results=#[]) {c:Frame}
  (h:dF (Go.Conc.G (c.finish (.tuple #[])) cs)):ad dF b (c::cs) nt [] env:=by
 intro t J U;refine gI _ (Go.Conc.G {ax b t [] with mode:=.returning} (c::cs)) ⟨rfl,rfl⟩ (λw=>?_) (gI _ _ ⟨rfl,rfl⟩ (λw=>?_) h)
 ·rw[jN hb];unfold stepG.exec;simp only[ax,cu];rfl
 ·rw[gX hb cu,stepG_leave (a:=⟨t,b.defers⟩) g6 eV bL (Go.results_none fc _ P w) (Go.Conc.events_results_none fc _ _)]
end
attribute [congr] ZA
attribute [simp] w6 Zy Zz yQ
def kO (P:Program) (Q:Value->Prop) (mn:Bool) (y:a2) (g:Goroutine):Prop:=jl g/\Goes P Q mn g {y with G:=Α.empty}
def lM (P:Program) (d:Nat) (g:Goroutine):Prop:=∃n,QuitsD P n d g
theorem bs {P:Program} {Q:Value->Prop} {mn:Bool} {y:a2} (γ:e7 y):I6 P mn (kO P Q mn y):=λg g' J U μ=>⟨J,Quiet.goes (.cons J U (.nil _)) γ μ.1 μ.2⟩
theorem en {P:Program} {d:Nat}:I6 P false (lM P d):=λg g' J U ⟨n,μ⟩=>⟨n+1,.ctl J.1 U μ⟩
section
variable {P:Program} {Q:Value->Prop} {mn:Bool} {y:a2} {b:Frame} {cs:List Frame} {nt:Nat} {k:List Item} {env:Χ}
variable {ops:Array Oper} {i:Nat} {rest:List Nat} {op:Oper} {f:FuncId} {e:Array Value->Sem Value} {args:Array Operand} {vs:List Value}
theorem ad.leaves {d:Nat} (ι:y.rel=true) (Ο:∀s,Gone (y.tok s)) (hd:y.deaf=d) (h:ad (lM P d) b cs nt k env):ad (kO P Q false y) b cs nt k env:=λt J U=>by
 obtain⟨n,Ζ⟩:=h t J U;subst hd;exact⟨⟨rfl,rfl⟩,Goes.quits n ι Ο Ζ⟩
theorem ad.disable (γ:e7 y) (h:hh P b ops i op f (λ_=>do mark .disable;pure Extern.Race.none_) args env [] nt) (χ:ad (kO P Q mn {y with deaf:=y.deaf+1}) b cs nt (.inRegion ops rest::k) (b0 op env oP)):ad (kO P Q mn y) b cs nt (.inRegion ops (i::rest)::k) env:=λt J U=>by
 obtain⟨s2,s1⟩:=rI U h.dst J (a:=oP) (v:=.tuple #[]) (.z _);exact⟨⟨rfl,rfl⟩,Goes.step γ.ok (.inr ⟨⟨rfl,rfl⟩,.inr (.inl ⟨Go.Conc.G (ax b (put op t (.tuple #[])) (.inRegion ops rest::k)) cs,⟨rfl,rfl⟩,.inl λw _=>
  ⟨h.step U (EP .disable) (ER .disable _) (r4 ζ),(χ _ s1 s2).2⟩⟩)⟩)⟩
def I8 (P:Program) (Q:Value->Prop) (mn:Bool) (y:a2) (b:Frame) (cs:List Frame) (nt:Nat) (ops:Array Oper) (rest:List Nat) (k:List Item) (op:Oper) (env:Χ) (s φ:Nat) (ο:aV) (v:Value):Prop:=
 ad (kO P Q mn {y with view:=upd y.view s (some (φ,ο))}) b cs nt (.inRegion ops rest::k) (b0 op env (.z v))
def Fe (P:Program) (Q:Value->Prop) (mn:Bool) (y:a2) (b:Frame) (cs:List Frame) (nt:Nat) (ops:Array Oper) (rest:List Nat) (k:List Item) (op:Oper) (env:Χ) (s φ:Nat) (ο:aV) (v:Value) (o':aV) (t':Tok):Prop:=
 Act ο (y.tok s) o' t'/\∀cA,cA<φ->ad (kO P Q mn {y with tok:=upd y.tok s t',view:=upd y.view s (some (cA,o'))}) b cs nt (.inRegion ops rest::k) (b0 op env (.z v))
theorem ad.ext (γ:e7 y) {s:Nat} {sp:Spec} (b7:y.spec s=some sp) (c5:¬gk (y.tok s)) (h:hh P b ops i op f e args env vs nt)
  (aY:∀(w:World) (φ:Nat) (ο:aV),Seen y s sp φ ο->At s ο w->
   (∃v w' gB,(e vs.toArray).run P w=.ok v w'/\(e vs.toArray).events P w #[⟨.mark (Mark.extern f),false,true⟩]=#[⟨.mark (Mark.extern f),false,true⟩]++gB/\(∀y∈gB,y.sync=true/\∀g,y.loc≠.mark (Mark.extern g))/\
    fI (λΨ _=>ez s sp Ψ) (λ_=>False) w w'/\o4 s sp y.deaf gB/\
    ((At s ο w'/\I8 P Q mn y b cs nt ops rest k op env s φ ο v)\/∃o' t',At s o' w'/\Fe P Q mn y b cs nt ops rest k op env s φ ο v o' t'))) :
  ad (kO P Q mn y) b cs nt (.inRegion ops (i::rest)::k) env:=by
 obtain⟨ej,Μ⟩:=h.call;intro t J U;refine⟨⟨rfl,rfl⟩,Goes.step γ.ok (.inr ⟨⟨rfl,rfl⟩,.inr (.inr (.inr (.inl ⟨s,sp,b7,c5,λw φ ο Τ hv ψ bE zy IC=>?_⟩)))⟩)⟩;obtain⟨v,w',gB,a1,a9,cK,gx,h6,mM⟩:=aY w φ ο ⟨ψ,zy,IC⟩ bE;have cH:=EN (mn:=mn) (cs:=cs) (rest:=rest) (k:=k) h.m8 h.at_ (kF U h.want) Μ (h.A9.bl U) a1 a9 cK;refine .inl ?_;rw[cH];obtain⟨s2,s1⟩:=rI U h.dst J (a:=.z v) (v:=v) (.z _);refine⟨⟨rfl,rfl⟩,gx,h6,?_⟩;rcases mM with⟨au,bd⟩|⟨o',t',au,bd,g7⟩
 ·exact .inl ⟨au,(bd _ s1 s2).2⟩
 ·exact .inr ⟨o',t',bd,au,.inl (Oj h.m8 h.at_ Μ),λcA eE=>(g7 cA eE _ s1 s2).2⟩
section
variable {s:Nat} {sp:Spec} (γ:e7 y) (hd:0<y.deaf) (b7:y.spec s=some sp) (c5:¬gk (y.tok s))
include γ hd b7 c5
theorem ad.ID (h:hh P b ops i op f (Extern.Atomic.loadT (.int .u64)) args env [.pointer (some ⟨s,0,none⟩)] nt)
  (dD:∀φ ο,Seen y s sp φ ο->I8 P Q mn y b cs nt ops rest k op env s φ ο (.int .u64 (cT ο))):ad (kO P Q mn y) b cs nt (.inRegion ops (i::rest)::k) env:=by
 refine .ext γ b7 c5 h λw φ ο ν bE=>?_;have ε:=bE.cQ;refine⟨.int .u64 (cT ο),w,#[⟨.cell ⟨s,0,none⟩,false,true⟩],?_,?_,r8 (r7 _ false),fI.refl _ _ _,r5 (.inl rfl) hd (r7 _ false),.inl ⟨bE,dD φ ο ν⟩⟩
 ·change Sem.run P (do Extern.Atomic.read (.int .u64) (<-asAddr (.pointer (some _)))) w=_;simp[Extern.Atomic.read,asAddr,ε]
 ·change Sem.events P (do Extern.Atomic.read (.int .u64) (<-asAddr (.pointer (some _)))) w _=_;simp[Extern.Atomic.read,asAddr,ε,events_load]
theorem ad.IE {d:Int} (h:hh P b ops i op f (Extern.Atomic.update (Op.intArith .add) .u64 true) args env [.pointer (some ⟨s,0,none⟩),.int .u64 d] nt)
  (dD:∀φ ο,Seen y s sp φ ο->∃o' t',cT o'=IntKind.u64.wrap (cT ο+d)/\o'.cP=ο.cP/\r9 ο o'/\Fe P Q mn y b cs nt ops rest k op env s φ ο (.int .u64 (cT o')) o' t') :
  ad (kO P Q mn y) b cs nt (.inRegion ops (i::rest)::k) env:=by
 refine .ext γ b7 c5 h λw φ ο ν bE=>?_;have ε:=bE.cQ;have Φ:=bE.vc 0;obtain⟨o',t',J,U,μ,Ε⟩:=dD φ ο ν;rw[J] at Ε;refine⟨_,_,_,run_add_entry ε Φ,(events_add_entry ε Φ _).trans rfl,r8 (r6 ⟨s,0,none⟩),bE.yG _,r5 (.inl rfl) hd (r6 ⟨s,0,none⟩),.inr ⟨o',t',bE.yF μ.aZ μ.g μ.w ?_,Ε⟩⟩;rw[J,U];rfl
theorem ad.ZC {d:Int} (h:hh P b ops i op f Extern.Atomic.storeT args env [.pointer (some ⟨s,0,none⟩),.int .u64 d] nt)
  (dD:∀φ ο,Seen y s sp φ ο->∃o' t',cT o'=d/\o'.cP=ο.cP/\r9 ο o'/\Fe P Q mn y b cs nt ops rest k op env s φ ο (.tuple #[]) o' t') :
  ad (kO P Q mn y) b cs nt (.inRegion ops (i::rest)::k) env:=by
 refine .ext γ b7 c5 h λw φ ο ν bE=>?_;have ε:=bE.cQ;have Φ:=bE.vc 0;obtain⟨o',t',J,U,μ,Ε⟩:=dD φ ο ν;refine⟨.tuple #[],w.setCell ⟨s,0,none⟩ (.int .u64 d),#[⟨.cell ⟨s,0,none⟩,true,true⟩],?_,?_,r8 (r7 _ true),bE.yG _,r5 (.inl rfl) hd (r7 _ true),.inr ⟨o',t',bE.yF μ.aZ μ.g μ.w (by rw[J,U];rfl),Ε⟩⟩
 ·change Sem.run P (do
   store (<-asAddr (.pointer (some _))) (.int .u64 d) .atomic
   pure Extern.Atomic.none_) w=_
  simp[asAddr,ε,Φ,run_store P w _ (.int .u64 d) .atomic rfl,Result.andThen,Extern.Atomic.none_]
 ·change Sem.events P (do
   store (<-asAddr (.pointer (some _))) (.int .u64 d) .atomic
   pure Extern.Atomic.none_) w _=_
  simp[asAddr,ε,Φ,events_store P w _ _ (.int .u64 d) .atomic rfl]
end
section
variable {s:Nat} {sp:Spec} (γ:e7 y) (b7:y.spec s=some sp) (c5:¬gk (y.tok s))
include γ b7 c5
theorem ad.ZD (an:vs[0]?=some (.pointer (some ⟨s,1,none⟩))) (h:hh P b ops i op f Extern.Sync.semrelease args env vs nt)
  (dD:∀φ ο,Seen y s sp φ ο->ο.cP<1000/\∃o' t',cT o'=cT ο/\o'.cP=ο.cP+1/\r9 ο o'/\Fe P Q mn y b cs nt ops rest k op env s φ ο (.tuple #[]) o' t') :
  ad (kO P Q mn y) b cs nt (.inRegion ops (i::rest)::k) env:=by
 refine .ext γ b7 c5 h λw φ ο ν bE=>?_;have ε:=bE.Ρ;obtain⟨aO,o',t',J,U,μ,Ε⟩:=dD φ ο ν;refine⟨_,_,_,Ow an ε (bE.vc 1),Ox an ε (bE.vc 1) _,semEvents_sync _,bE.yG _,EV (.inl rfl),.inr ⟨o',t',bE.yF μ.aZ μ.g μ.w ?_,Ε⟩⟩;rw[J,U,show IntKind.u32.wrap (((ο.cP:Nat):Int)+1)=((ο.cP+1:Nat):Int) by simp only[IntKind.wrap_u32];omega];rfl
end
theorem Pa {t:Array Value} (hb:b.mode=.run) (cu:b.roundOf=none) (eV:b.defers=[Go.Conc.dcall f #[]]) (g6:b.kind=.normal) {fn:Func} (bL:P.funcs[b.fn]?=some fn) (fc:fn.results=#[]) (he:Entry P f (λ_=>do mark .enable;pure Extern.Race.none_)) {c:Frame}
  (h:lM P 0 (Go.Conc.G (c.finish (.tuple #[])) cs)):lM P 1 (Go.Conc.G {ax b t k with mode:=.returning} (c::cs)):=by
 obtain⟨jΔ,Γ,Δ,a4,cM,fh⟩:=he;obtain⟨n,Ζ⟩:=h;rw[gX hb cu];refine⟨n+1+1,QuitsD.unwind_mark (a:=⟨t,b.defers⟩) (ds:=[]) .enable rfl ζ eV Γ Δ a4 cM fh ?_⟩;exact .ctl rfl (λw=>stepG_leave (a:=⟨t,[]⟩) g6 rfl bL (Go.results_none fc _ P w) (Go.Conc.events_results_none fc _ _)) Ζ
theorem ad.I1 (hb:b.mode=.run) (cu:b.roundOf=none) (eV:b.defers=[Go.Conc.dcall f #[]]) (g6:b.kind=.normal) {fn:Func} (bL:P.funcs[b.fn]?=some fn) (fc:fn.results=#[]) (he:Entry P f (λ_=>do mark .enable;pure Extern.Race.none_)) {c:Frame}
  (h:lM P 0 (Go.Conc.G (c.finish (.tuple #[])) cs)):ad (lM P 1) b (c::cs) nt (.code .ret::k) env:=λt _ _=>by
 refine en _ (Go.Conc.G {ax b t (.code .ret::k) with mode:=.returning} (c::cs)) ⟨rfl,rfl⟩ (λw=>?_) (Pa hb cu eV g6 bL fc he h);rw[jN hb];unfold stepG.exec;simp only[ax,cu];rfl
theorem ad.ZE (hb:b.mode=.run) (cu:b.roundOf=none) (eV:b.defers=[Go.Conc.dcall f #[]]) (g6:b.kind=.normal) {fn:Func} (bL:P.funcs[b.fn]?=some fn) (fc:fn.results=#[]) (he:Entry P f (λ_=>do mark .enable;pure Extern.Race.none_)) {c:Frame}
  (h:lM P 0 (Go.Conc.G (c.finish (.tuple #[])) cs)):ad (lM P 1) b (c::cs) nt [] env:=λt _ _=>by
 refine en _ (Go.Conc.G {ax b t [] with mode:=.returning} (c::cs)) ⟨rfl,rfl⟩ (λw=>?_) (Pa hb cu eV g6 bL fc he h);rw[jN hb];unfold stepG.exec;simp only[ax,cu];rfl
end
def yR (x:a2):a2:={x with aN:=λ_=>none,rel:=true}
theorem V.GF {P:Program} {Q:Value->Prop} {x:a2} {b:Frame} {cs:List Frame} {nt:Nat} {o:Base} {k:List Item} {env:Χ} {ops:Array Oper} {i:Nat} {rest:List Nat} {op:Oper} {f:FuncId} {args:Array Operand} (γ:x.rel=false) {s n:Nat} {sp:Spec} {mu:lS} {v:Option (Nat×aV)} (b7:x.spec s=some sp) (uk:mu=.done\/(mu=.idle/\sp.aZ=none)) (c5:∀bk,bk≠s->gk (x.tok bk)) (cY:sp.D n Α.empty)
  (h:hh P b ops i op f (Extern.Race.marked .releaseMerge) args env [.pointer (some ⟨s,0,none⟩)] nt) (he:∀p∈b0 op env oP,∃v,p.2=η.z v)
  (χ:ad (kO P Q false (bu (yR x) s (.ch n mu .rel) none 0)) b cs nt (.inRegion ops rest::k) (b0 op env oP)):V P Q false (one (bu x s (.ch n mu .work) v 0)) b cs nt o (.inRegion ops (i::rest)::k) env []:=by
 intro S B H t κ π y Κ;cases Κ;have nb:=π.put h.dst (a:=oP) (v:=.tuple #[]) (.z _);have Ο:=(χ _ nb.size (Bm he nb.cx)).2;refine Goes.step (e7.ok (.inl γ)) (.inr ⟨⟨rfl,rfl⟩,.inr (.inr (.inr (.inr (.inr (.inr (.inl ⟨s,sp,n,mu,Go.Conc.G (ax b (put op t (.tuple #[])) (.inRegion ops rest::k)) cs,Α.empty,b7,cf (v:=v) (d:=0),uk,λbk jD=>by
  rw[show({bu x s (.ch n mu .work) v 0 with G:=H}:a2).tok bk=(bu x s (.ch n mu .work) v 0).tok bk from rfl,Bc jD];exact c5 bk jD,rfl,⟨rfl,rfl⟩,γ,λw _=>
  h.step π.cx (yC .releaseMerge _) (yD .releaseMerge _ _) (r4 ζ),⟨λb o v p ε=>(by cases ε),λb y ε=>(by cases ε),λb y ε=>(by cases ε)⟩,cY,?_⟩))))))⟩)
 have e:({({bu x s (.ch n mu .work) v 0 with G:=H}:a2) with G:=Α.empty,aN:=λ_=>none,tok:=upd ({bu x s (.ch n mu .work) v 0 with G:=H}:a2).tok s (.ch n mu .rel),view:=upd ({bu x s (.ch n mu .work) v 0 with G:=H}:a2).view s none,rel:=true}:a2)={bu (yR x) s (.ch n mu .rel) none 0 with G:=Α.empty}:=by
  unfold bu yR;simp only[IH]
 exact e▸Ο
end Go.TL
namespace Go.TL
open Go.Conc Go.Proofs
open Go.ConcN (sumTo upd sumTo_upd upd_ne upd_same sumTo_congr le_sumTo)
noncomputable def Ff:Code:=Tryz.f140.body.getD .skip
noncomputable abbrev I9 (s:Nat):Frame:={Frame.enter Tryz.prog 140 #[ptr s 0,.int .i64 (-1)] .normal with defers:=[Go.Conc.dcall 161 #[]]}
theorem ZF:IntKind.u64.wrap (IntKind.u64.wrap (-1)*2 ^ min 32 IntKind.u64.bits)=18446744069414584320:=br
theorem ZG:IntKind.u64.wrap (18446744073709551615*2 ^ min 32 IntKind.u64.bits)=18446744069414584320:=br
theorem ZH:IntKind.u64.wrap (-1)=18446744073709551615:=br
theorem Fg:IntKind.i32.wrap (-1)=-1:=br
section
variable {Q:Value->Prop} {c:Frame} {rest:List Frame} {s k:Nat} {sp:Spec} {v:Option (Nat×aV)}
theorem ZI [bp] (Ι:lM Tryz.prog 0 (Go.Conc.G (c.finish (.tuple #[])) rest)) {cc w0:Nat} (J:cc<8) (U:w0<2) (μ:0<cc\/w0=0) {env:Χ} (cF:a5 env 0=.z (ptr s 0)) (Γ:a5 env 1=.z (.int .i64 (-1))) (cM:a5 env 4=.z (.bool false)) (lX:a5 env 6=.z (.int .u64 (iF cc w0))) :
  ad (lM Tryz.prog 1) (I9 s) (c::rest) 117 [.code (ea [1,1,1,1] Ff)] env:=by
 have fin:∀(K:List Item) (env:Χ),ad (lM Tryz.prog 1) (I9 s) (c::rest) 117 (.code .ret::K) env:=λK env=>ad.I1 rfl rfl rfl rfl Tryz.func140 rfl vd Ι
 have Pb:¬(cc:Int)<0:=Int.not_lt.2 (Int.natCast_nonneg _)
 have hw:w0=0\/w0=1:=R
 have f1:=E8 cc J w0 U
 have f2:=E9 cc J w0 U
 have f3:=Fa cc J w0 U;generalize iF cc w0=w at f1 f2 f3 lX;unfold Ff;by_cases π:0<cc
 ·have iw:(0:Int)<cc:=by exact_mod_cast π
  rcases hw with rfl|rfl
  ·(repeat (first|refine ad.seq en rfl ?_|refine ad.block en rfl ?_|refine ad.inBlock en rfl ?_|refine ad.skip en rfl ?_|refine ad.nq en rfl rfl ?_|refine ad.ns en rfl rfl ?_|(refine ad.region en rfl Υ rfl (by simp[Frame.enter]) λΘ θ=>?_;(try simp);(repeat (refine hn ?_;simp[cF,Γ,cM,lX,f1,f2,f3,Fg,Pb,π,iw]));refine θ _ ?_)));exact fin _ _
  ·(repeat (first|refine ad.seq en rfl ?_|refine ad.block en rfl ?_|refine ad.inBlock en rfl ?_|refine ad.skip en rfl ?_|refine ad.nq en rfl rfl ?_|refine ad.ns en rfl rfl ?_|(refine ad.region en rfl Υ rfl (by simp[Frame.enter]) λΘ θ=>?_;(try simp);(repeat (refine hn ?_;simp[cF,Γ,cM,lX,f1,f2,f3,Fg,Pb,π,iw]));refine θ _ ?_)));exact fin _ _
 ·have an:w0=0:=μ.resolve_left π
  have jM:cc=0:=Nat.eq_zero_of_not_pos π;subst an;subst jM;(repeat (first|refine ad.seq en rfl ?_|refine ad.block en rfl ?_|refine ad.inBlock en rfl ?_|refine ad.skip en rfl ?_|refine ad.nq en rfl rfl ?_|refine ad.ns en rfl rfl ?_|(refine ad.region en rfl Υ rfl (by simp[Frame.enter]) λΘ θ=>?_;(try simp);(repeat (refine hn ?_;simp[cF,Γ,cM,lX,f1,f2,f3,Fg]));refine θ _ ?_)));exact fin _ _
structure qT (x:a2) (s:Nat) (sp:Spec):Prop where
 rel:x.rel=true
 spec:x.spec s=some sp
 top:sp.top<7
 shut:∀bk,bk≠s->gk (x.tok bk)
theorem qT.here {x:a2} (h:qT x s sp) {g:tZ} {d:Nat} (Ο:g≠.gone):e7 (bu x s (.ch k .done g) v d):=.inr ⟨s,by rw[cf];cases g<;>simp_all [Gone]⟩
theorem qT.gone {x:a2} (h:qT x s sp) {d:Nat}:∀bk,Gone ((bu x s (.ch k .done .gone) v d).tok bk):=λbk=>by
 by_cases e:bk=s
 ·subst e;rw[cf];trivial
 ·rw[Bc e];have:=h.shut bk e;revert this;cases x.tok bk with
  | nil=>exact λ_=>trivial
  | par n p aQ=>cases aQ<;>exact λh=>h
  | ch k m g=>exact λh=>h.elim
theorem qT.Fb {x:a2} (ε:qT x s sp) {ο:aV} (h:ο.toSpec=sp):ο.top<7:=by have:=ε.top;rw[show ο.top=sp.top by rw[<-h]];exact this
theorem ad.back [bp] {dF:Goroutine->Prop} {b:Frame} {cs:List Frame} {nt:Nat} {k:List Item} {env:Χ} {ops:Array Oper} {i:Nat} {rest:List Nat} {op:Oper} {t:Array Value} {v:Value} (ψ:ops[i]?=some op) (hd:hc nt op=true) (Ν:t.size=nt) (ν:dv fp [] [] env t)
  (h:ad dF b cs nt (.inRegion ops rest::k) (b0 op env (.z v))):dF (Go.Conc.G ((ax b t (.inRegion ops (i::rest)::k)).finish v) cs):=by
 rw[iY ψ];obtain⟨s2,s1⟩:=rI ν hd Ν (a:=.z v) (v:=v) (.z _);exact h _ s1 s2
theorem ad.Pd [bp] {P:Program} {b:Frame} {cs:List Frame} {nt:Nat} {env:Χ} (hb:b.mode=.run) (cu:b.roundOf=none) (eV:b.defers=[]) (g6:b.kind=.deferred) {fn:Func} (bL:P.funcs[b.fn]?=some fn) (fc:fn.results=#[]) {c:Frame} (qS:c.mode=.returning)
  (h:lM P 0 (Go.Conc.G c cs)):ad (lM P 0) b (c::cs) nt [] env:=λt _ _=>by
 obtain⟨n,Ζ⟩:=h;refine en _ (Go.Conc.G {ax b t [] with mode:=.returning} (c::cs)) ⟨rfl,rfl⟩ (λw=>?_) ⟨n+1,?_⟩
 ·rw[jN hb];unfold stepG.exec;simp only[ax,cu];rfl
 ·rw[gX hb cu];exact QuitsD.leaveD (a:=⟨t,b.defers⟩) g6 eV bL fc qS Ζ
theorem ZJ [bp] {x:a2} (ε:qT x s sp) {t:Tok} (aY:∀v,e7 (bu x s t v 1)) (c5:¬gk t) {cs:List Frame} (dD:∀φ ο,Seen (bu x s t v 1) s sp φ ο->kO Tryz.prog Q false (bu x s t (some (φ,ο)) 1) (Go.Conc.G (c.finish (.int .u64 (cT ο))) cs)) :
  ad (kO Tryz.prog Q false (bu x s t v 1)) (Frame.enter Tryz.prog 168 #[ptr s 0] .normal) (c::cs) 7 [.code (Tryz.f168.body.getD .skip)] (entry 0 [.z (ptr s 0)]):=by
 simp only[Tryz.f168,Option.getD_some];(repeat (first|refine ad.seq (bs (aY _)) rfl ?_|refine ad.block (bs (aY _)) rfl ?_|refine ad.inBlock (bs (aY _)) rfl ?_|refine ad.skip (bs (aY _)) rfl ?_|refine ad.nq (bs (aY _)) rfl rfl ?_|refine ad.ns (bs (aY _)) rfl rfl ?_|(refine ad.region (bs (aY _)) rfl Υ rfl (by simp[Frame.enter]) λΘ θ=>?_;(try simp);(repeat (refine hn ?_;simp[c5]));refine θ _ ?_)));refine ad.cy (bs (aY _)) rfl ?_;refine ad.part (bs (aY _)) rfl Υ rfl (by simp[Frame.enter]) [0,1,2] [3,4] rfl λΘ θ=>?_;(try simp[-w6]);(repeat (refine hn ?_;simp));refine θ _ ?_;refine ad.ID (aY _) (Nat.succ_pos _) (sp:=sp) ε.spec (by rw[cf];exact c5) ⟨⟨rfl,rfl,by simp[Frame.enter],rfl⟩,OH,⟨_,rfl⟩,rfl,rfl,rfl⟩ λφ ο ν=>?_;unfold I8;rw[kN];refine ad.part (bs (aY _)) rfl Υ rfl (by simp[Frame.enter]) [4] [] rfl λΘ θ=>?_;(try simp[-w6]);(repeat (refine hn ?_;simp));refine θ _ ?_;refine ad.bF (bs (aY _)) rfl ?_;exact ad.tz (bs (aY _)) rfl rfl rfl rfl Tryz.func168 rfl rfl (dD φ ο ν)
theorem ZK [bp] {x:a2} (ε:qT x s sp) {t t':Tok} {d:Int} (aY:∀v,e7 (bu x s t v 1)) (Pe:∀v,e7 (bu x s t' v 1)) (c5:¬gk t) {cs:List Frame} (dD:∀φ ο,Seen (bu x s t v 1) s sp φ ο->∃o',cT o'=d/\o'.cP=ο.cP/\r9 ο o'/\Act ο t o' t'/\∀cA,cA<φ->kO Tryz.prog Q false (bu x s t' (some (cA,o')) 1) (Go.Conc.G (c.finish (.tuple #[])) cs)) :
  ad (kO Tryz.prog Q false (bu x s t v 1)) (Frame.enter Tryz.prog 169 #[ptr s 0,.int .u64 d] .normal) (c::cs) 9 [.code (Tryz.f169.body.getD .skip)] (entry 0 [.z (ptr s 0),.z (.int .u64 d)]):=by
 simp only[Tryz.f169,Option.getD_some];(repeat (first|refine ad.seq (bs (aY _)) rfl ?_|refine ad.block (bs (aY _)) rfl ?_|refine ad.inBlock (bs (aY _)) rfl ?_|refine ad.skip (bs (aY _)) rfl ?_|refine ad.nq (bs (aY _)) rfl rfl ?_|refine ad.ns (bs (aY _)) rfl rfl ?_|(refine ad.region (bs (aY _)) rfl Υ rfl (by simp[Frame.enter]) λΘ θ=>?_;(try simp);(repeat (refine hn ?_;simp[c5]));refine θ _ ?_)));refine ad.cy (bs (aY _)) rfl ?_;refine ad.part (bs (aY _)) rfl Υ rfl (by simp[Frame.enter]) [0,1,2,3] [4] rfl λΘ θ=>?_;(try simp[-w6]);(repeat (refine hn ?_;simp));refine θ _ ?_;refine ad.ZC (aY _) (Nat.succ_pos _) (sp:=sp) ε.spec (by rw[cf];exact c5) ⟨⟨rfl,rfl,by simp[Frame.enter],rfl⟩,YS,⟨_,rfl⟩,rfl,rfl,rfl⟩ λφ ο ν=>?_;obtain⟨o',a1,a9,cK,gx,h6⟩:=dD φ ο ν;refine⟨o',t',a1,a9,cK,by rw[cf];exact gx,λcA eE=>?_⟩;rw[hj];refine ad.bF (bs (Pe _)) rfl ?_;exact ad.EW (bs (Pe _)) rfl rfl rfl rfl Tryz.func169 rfl (h6 cA eE)
theorem ZL [bp] {x:a2} (ε:qT x s sp) {t:Tok} {d:Int} (aY:∀v,e7 (bu x s t v 1)) (c5:¬gk t) {cs:List Frame}
  (dD:∀φ ο,Seen (bu x s t v 1) s sp φ ο->∃o' t',cT o'=IntKind.u64.wrap (cT ο+d)/\o'.cP=ο.cP/\r9 ο o'/\Act ο t o' t'/\∀cA,cA<φ->(((∀v,e7 (bu x s t' v 1))/\kO Tryz.prog Q false (bu x s t' (some (cA,o')) 1) (Go.Conc.G (c.finish (.int .u64 (cT o'))) cs))\/((∀bk,Gone ((bu x s t' (some (cA,o')) 1).tok bk))/\lM Tryz.prog 1 (Go.Conc.G (c.finish (.int .u64 (cT o'))) cs)))) :
  ad (kO Tryz.prog Q false (bu x s t v 1)) (Frame.enter Tryz.prog 166 #[ptr s 0,.int .u64 d] .normal) (c::cs) 10 [.code (Tryz.f166.body.getD .skip)] (entry 0 [.z (ptr s 0),.z (.int .u64 d)]):=by
 simp only[Tryz.f166,Option.getD_some];(repeat (first|refine ad.seq (bs (aY _)) rfl ?_|refine ad.block (bs (aY _)) rfl ?_|refine ad.inBlock (bs (aY _)) rfl ?_|refine ad.skip (bs (aY _)) rfl ?_|refine ad.nq (bs (aY _)) rfl rfl ?_|refine ad.ns (bs (aY _)) rfl rfl ?_|(refine ad.region (bs (aY _)) rfl Υ rfl (by simp[Frame.enter]) λΘ θ=>?_;(try simp);(repeat (refine hn ?_;simp[c5]));refine θ _ ?_)));refine ad.cy (bs (aY _)) rfl ?_;refine ad.part (bs (aY _)) rfl Υ rfl (by simp[Frame.enter]) [0,1,2,3] [4,5] rfl λΘ θ=>?_;(try simp[-w6]);(repeat (refine hn ?_;simp));refine θ _ ?_;refine ad.IE (aY _) (Nat.succ_pos _) (sp:=sp) ε.spec (by rw[cf];exact c5) ⟨⟨rfl,rfl,by simp[Frame.enter],rfl⟩,OG,⟨_,rfl⟩,rfl,rfl,rfl⟩ λφ ο ν=>?_;obtain⟨o',t',a1,a9,cK,gx,h6⟩:=dD φ ο ν;refine⟨o',t',a1,a9,cK,by rw[cf];exact gx,λcA eE=>?_⟩;rw[hj];rcases h6 cA eE with⟨bC,dt⟩|⟨bC,dt⟩
 ·refine ad.part (bs (bC _)) rfl Υ rfl (by simp[Frame.enter]) [5] [] rfl λΘ θ=>?_;(try simp[-w6]);(repeat (refine hn ?_;simp));refine θ _ ?_;refine ad.bF (bs (bC _)) rfl ?_;exact ad.tz (bs (bC _)) rfl rfl rfl rfl Tryz.func166 rfl rfl dt
 ·refine ad.leaves (d:=1) ε.rel bC rfl ?_;refine ad.part en rfl Υ rfl (by simp[Frame.enter]) [5] [] rfl λΘ θ=>?_;(try simp[-w6]);(repeat (refine hn ?_;simp));refine θ _ ?_;refine ad.bF en rfl ?_;exact ad.tz en rfl rfl rfl rfl Tryz.func166 rfl rfl dt
theorem ZM [bp] {x:a2} (ε:qT x s sp) (Ι:lM Tryz.prog 0 (Go.Conc.G (c.finish (.tuple #[])) rest)) {env:Χ} (cF:a5 env 0=.z (ptr s 0)) (Γ:a5 env 1=.z (.int .i64 (-1))) (cM:a5 env 4=.z (.bool false)) (lX:a5 env 6=.z (.int .u64 (iF 0 1))) :
  ad (kO Tryz.prog Q false (bu x s (.ch k .done .l2) v 1)) (I9 s) (c::rest) 117 [.code (ea [1,1,1,1] Ff)] env:=by
 have f1:=E8 0 br 1 br
 have f2:=E9 0 br 1 br
 have f3:=Fa 0 br 1 br
 have hB:iF 0 1=1:=br;generalize hw:iF 0 1=w at f1 f2 f3 lX;have U:=ε.here (k:=k) (v:=v) (d:=1) (g:=.l2) ζ;unfold Ff;(repeat (first|refine ad.seq (bs U) rfl ?_|refine ad.block (bs U) rfl ?_|refine ad.inBlock (bs U) rfl ?_|refine ad.skip (bs U) rfl ?_|refine ad.nq (bs U) rfl rfl ?_|refine ad.ns (bs U) rfl rfl ?_|(refine ad.region (bs U) rfl Υ rfl (by simp[Frame.enter]) λΘ θ=>?_;(try simp);(repeat (refine hn ?_;simp[cF,Γ,cM,lX,f1,f2,f3,Fg]));refine θ _ ?_)));refine ad.cy (bs U) rfl ?_;refine ad.part (bs U) rfl Υ rfl (by simp[Frame.enter]) [0,1,2] [3,4,5] rfl λΘ θ=>?_;(repeat (refine hn ?_;simp[cF]));refine θ _ ?_;refine ad.call (bs U) rfl ⟨rfl,rfl,by simp[Frame.enter],rfl⟩ rfl rfl (vs:=[ptr s 0]) rfl Tryz.func168 rfl rfl (by simp[Tryz.ntmps168]) λt Ν ν=>?_;have hI:∀v,e7 (bu x s (.ch k .done .l2) v 1):=λv=>ε.here ζ;have ks:∀v,e7 (bu x s (.ch k .done .h5) v 1):=λv=>ε.here ζ;refine ZJ ε hI id λφ ο sc=>?_;have χ:=sc.jS.tC;rw[cf] at χ;obtain⟨Ρ,aa⟩:=χ.l2 k _ rfl;have rn:cT ο=w:=by rw[<-hw];simp only[cT,Ρ,aa]
 rw[rn];refine ad.back rfl rfl Ν ν ?_;refine ad.part (bs (hI _)) rfl Υ rfl (by simp[Frame.enter]) [4,5] [] rfl λΘ θ=>?_;(repeat (refine hn ?_;simp[lX]));refine θ _ ?_;refine ad.bF (bs (hI _)) rfl ?_;(repeat (first|refine ad.seq (bs (hI _)) rfl ?_|refine ad.block (bs (hI _)) rfl ?_|refine ad.inBlock (bs (hI _)) rfl ?_|refine ad.skip (bs (hI _)) rfl ?_|refine ad.nq (bs (hI _)) rfl rfl ?_|refine ad.ns (bs (hI _)) rfl rfl ?_|(refine ad.region (bs (hI _)) rfl Υ rfl (by simp[Frame.enter]) λΘ θ=>?_;(try simp);(repeat (refine hn ?_;simp[cF]));refine θ _ ?_)));refine ad.cy (bs (hI _)) rfl ?_;refine ad.part (bs (hI _)) rfl Υ rfl (by simp[Frame.enter]) [0,1,2] [3] rfl λΘ θ=>?_;(repeat (refine hn ?_;simp[cF]));refine θ _ ?_;refine ad.call (bs (hI _)) rfl ⟨rfl,rfl,by simp[Frame.enter],rfl⟩ rfl rfl (vs:=[ptr s 0,.int .u64 0]) rfl Tryz.func169 rfl rfl (by simp[Tryz.ntmps169]) λt3 ZN sb=>?_;refine ZK ε (t':=.ch k .done .h5) hI ks id λBo ZO ZP=>?_;have wV:=ZP.jS.tC;rw[cf] at wV;obtain⟨aX,ca⟩:=wV.l2 k _ rfl;refine⟨{ZO with wt:=0},by simp only[cT,ca];rfl,rfl,⟨rfl,rfl,rfl⟩,.Sd,λjΕ jΖ=>?_⟩;refine ad.back rfl rfl ZN sb ?_;refine ad.bF (bs (ks _)) rfl ?_;(repeat (first|refine ad.seq (bs (ks _)) rfl ?_|refine ad.block (bs (ks _)) rfl ?_|refine ad.inBlock (bs (ks _)) rfl ?_|refine ad.skip (bs (ks _)) rfl ?_|refine ad.nq (bs (ks _)) rfl rfl ?_|refine ad.ns (bs (ks _)) rfl rfl ?_|(refine ad.region (bs (ks _)) rfl Υ rfl (by simp[Frame.enter]) λΘ θ=>?_;(try simp);(repeat (refine hn ?_;simp[cF,cM]));refine θ _ ?_)));refine ad.loop (bs (ks _)) rfl ?_;(repeat (first|refine ad.seq (bs (ks _)) rfl ?_|refine ad.block (bs (ks _)) rfl ?_|refine ad.inBlock (bs (ks _)) rfl ?_|refine ad.skip (bs (ks _)) rfl ?_|refine ad.nq (bs (ks _)) rfl rfl ?_|refine ad.ns (bs (ks _)) rfl rfl ?_|(refine ad.region (bs (ks _)) rfl Υ rfl (by simp[Frame.enter]) λΘ θ=>?_;(try simp);(repeat (refine hn ?_;simp[cF,cM]));refine θ _ ?_)));refine ad.cy (bs (ks _)) rfl ?_;refine ad.part (bs (ks _)) rfl Υ rfl (by simp[Frame.enter]) [0,1,2] [3] rfl λΘ θ=>?_;(repeat (refine hn ?_;simp[cF]));refine θ _ ?_;refine ad.ZD (ks _) (sp:=sp) ε.spec (by rw[cf];exact id) (vs:=[ptr s 1,.bool false,.int .i64 0]) rfl ⟨⟨rfl,rfl,by simp[Frame.enter],rfl⟩,YX,⟨_,rfl⟩,rfl,rfl,rfl⟩ λjΗ Pf ZQ=>?_;have Pg:=ZQ.jS.tC;rw[cf] at Pg;refine⟨by have:=Pg.cP;omega,{Pf with cP:=Pf.cP+1},.ch k .done .gone,rfl,rfl,⟨rfl,rfl,rfl⟩,by rw[cf];exact .Se,λjΘ jΙ=>?_⟩;rw[hj];refine ad.leaves (d:=1) ε.rel ε.gone rfl ?_;refine ad.bF en rfl ?_;(repeat (first|refine ad.seq en rfl ?_|refine ad.block en rfl ?_|refine ad.inBlock en rfl ?_|refine ad.skip en rfl ?_|refine ad.nq en rfl rfl ?_|refine ad.ns en rfl rfl ?_|(refine ad.region en rfl Υ rfl (by simp[Frame.enter]) λΘ θ=>?_;(try simp);(repeat (refine hn ?_;simp[cF,Fc]));refine θ _ ?_)));refine ad.inLoop en rfl ?_;(repeat (first|refine ad.seq en rfl ?_|refine ad.block en rfl ?_|refine ad.inBlock en rfl ?_|refine ad.skip en rfl ?_|refine ad.nq en rfl rfl ?_|refine ad.ns en rfl rfl ?_|(refine ad.region en rfl Υ rfl (by simp[Frame.enter]) λΘ θ=>?_;(try simp);(repeat (refine hn ?_;simp[cF,Fc]));refine θ _ ?_)));refine ad.exit en rfl rfl ?_;exact ad.ZE rfl rfl rfl rfl Tryz.func140 rfl vd Ι
structure Ph (x:a2) (s:Nat) (sp:Spec):Prop where
 rel:x.rel=false
 aN:x.aN=λ_=>none
 spec:x.spec s=some sp
 top:sp.top<7
 shut:∀bk,bk≠s->gk (x.tok bk)
theorem ZR {x:a2} {H:Α} (ε:Ph x s sp) (cY:sp.D k Α.empty) (qS:c.mode=.returning) (Ι:lM Tryz.prog 0 (Go.Conc.G c rest)) :
  cC Tryz.prog Q false (bu x s (.ch k .done .work) v 0) (Frame.enter Tryz.prog 142 #[ptr s 0] .deferred) (c::rest) H:=by
 letI:bp:=eX;have γ:∀t v d,Seq (one (bu x s t v d)):=λt v d=>Seq.vb trivial ε.rel ε.aN;have Ο:qT (yR x) s sp:=⟨rfl,ε.spec,ε.top,ε.shut⟩;have ι:∀v d,e7 (bu (yR x) s (.ch k .done .rel) v d):=λv d=>Ο.here ζ;have ξ:∀v d,e7 (bu (yR x) s (.ch k .done .l2) v d):=λv d=>Ο.here ζ;rw[qB (body:=Tryz.f142.body.getD .skip) Tryz.func142 rfl];refine V.here (x:=one _) (m:=0) (nt:=4) (S:=fp) (B:=[]) (σ:=[]) (env:=entry 0 [.z (ptr s 0)]) ?_ (fO.enter (yM H) ⟨rfl,λi a v J U=>?_⟩ (Nat.le_refl _) ζ) _ rfl
 ·refine V.fT (γ _ _ _) rfl ?_;simp only[Tryz.f142,Option.getD_some];refine c7 ?_;refine W.cy ?_;refine fw [0] [1] ?_;refine W.stop ?_;refine V.call (γ _ _ _) ⟨rfl,rfl,by simp[Frame.enter],rfl⟩ rfl rfl rfl ⟨_,Tryz.func140,rfl,rfl⟩ λbM bS H1 t1 pB κ π hv=>?_;obtain rfl:=nj (l:=[ptr s 0,.int .i64 (-1)]) hv;obtain rfl:bS=[]:=dO.1 π.holds.len;rintro y rfl;refine V.qL (z:=one _) (vs:=[ptr s 0,.int .i64 (-1)]) Tryz.func140 rfl π.holds (by simp[Tryz.ntmps140]) ?_ _ rfl;refine V.fT (γ _ _ _) rfl ?_;refine hT ?_;refine W.cy ?_;refine fw [0] [1,2] ?_;refine W.stop ?_;refine V.conv (γ _ _ _).here (sp:=sp) ε.spec (by rw[cf];exact id) ⟨rfl,rfl,by simp[Frame.enter],rfl⟩ rfl rfl rfl IQ ve IS rfl (λο w ψ bE=>⟨_,bE.cQ⟩) (λφ ο ν=>?_);unfold iP;rw[kN];refine V.GF ε.rel (sp:=sp) ε.spec (.inl rfl) ε.shut cY ⟨⟨rfl,rfl,by simp[Frame.enter],rfl⟩,OD,⟨_,rfl⟩,rfl,rfl,rfl⟩ ζ ?_;refine ad.bF (bs (ι _ _)) rfl ?_;(repeat (first|refine ad.seq (bs (ι _ _)) rfl ?_|refine ad.block (bs (ι _ _)) rfl ?_|refine ad.inBlock (bs (ι _ _)) rfl ?_|refine ad.skip (bs (ι _ _)) rfl ?_|refine ad.nq (bs (ι _ _)) rfl rfl ?_|refine ad.ns (bs (ι _ _)) rfl rfl ?_|(refine ad.region (bs (ι _ _)) rfl Υ rfl (by simp[Frame.enter]) λΘ θ=>?_;(try simp);(repeat (refine hn ?_;simp[qS]));refine θ _ ?_)));refine ad.cy (bs (ι _ _)) rfl ?_;refine ad.disable (ι _ _) ⟨⟨rfl,rfl,by simp[Frame.enter],rfl⟩,Be,⟨_,rfl⟩,rfl,rfl,rfl⟩ ?_;rw[Ba];refine ad.bF (bs (ι _ _)) rfl ?_;refine ad.cy (bs (ι _ _)) rfl ?_;refine ad.IG (bs (ι _ _)) rfl ⟨rfl,rfl,by simp[Frame.enter],rfl⟩ rfl rfl rfl ?_;refine ad.bF (bs (ι _ _)) rfl ?_;(repeat (first|refine ad.seq (bs (ι _ _)) rfl ?_|refine ad.block (bs (ι _ _)) rfl ?_|refine ad.inBlock (bs (ι _ _)) rfl ?_|refine ad.skip (bs (ι _ _)) rfl ?_|refine ad.nq (bs (ι _ _)) rfl rfl ?_|refine ad.ns (bs (ι _ _)) rfl rfl ?_|(refine ad.region (bs (ι _ _)) rfl Υ rfl (by simp[Frame.enter]) λΘ θ=>?_;(try simp);(repeat (refine hn ?_;simp[qS]));refine θ _ ?_)));refine ad.cy (bs (ι _ _)) rfl ?_;refine ad.EX (bs (ι _ _)) rfl ⟨rfl,rfl,by simp[Frame.enter],rfl⟩ rfl rfl rfl OE ?_;refine ad.bF (bs (ι _ _)) rfl ?_;(repeat (first|refine ad.seq (bs (ι _ _)) rfl ?_|refine ad.block (bs (ι _ _)) rfl ?_|refine ad.inBlock (bs (ι _ _)) rfl ?_|refine ad.skip (bs (ι _ _)) rfl ?_|refine ad.nq (bs (ι _ _)) rfl rfl ?_|refine ad.ns (bs (ι _ _)) rfl rfl ?_|(refine ad.region (bs (ι _ _)) rfl Υ rfl (by simp[Frame.enter]) λΘ θ=>?_;(try simp);(repeat (refine hn ?_;simp[qS]));refine θ _ ?_)));refine ad.cy (bs (ι _ _)) rfl ?_;refine ad.part (bs (ι _ _)) rfl Υ rfl (by simp[Frame.enter]) [0,1,2,3,4,5] [6,7] rfl λΘ θ=>?_;(repeat (refine hn ?_;simp[ZH,ZF,ZG]));refine θ _ ?_;refine ad.call (bs (ι _ _)) rfl ⟨rfl,rfl,by simp[Frame.enter],rfl⟩ rfl rfl (vs:=[ptr s 0,.int .u64 18446744069414584320]) rfl Tryz.func166 rfl rfl (by simp[Tryz.ntmps166]) λt2 w8 eg=>?_;refine ZL Ο (λv=>ι v 1) id λφ ο sb=>?_;have χ:=sb.jS.tC;rw[cf] at χ;have fb:1<=ο.cnt:=χ.live;have gY:=Ο.Fb sb.spec;have wZ:=χ.cnt;have rl:=χ.wt;obtain⟨cc,mc⟩:=aK (ο.cnt-1);have Bs:ο.cnt<8/\0<ο.cnt/\cc<8/\ο.wt<2:=R;have Pj:cT {ο with cnt:=cc}=IntKind.u64.wrap (cT ο+18446744069414584320):=by
   rw[vh,vh,Zj ο.cnt Bs.1 ο.wt Bs.2.2.2 Bs.2.1,mc]
  by_cases j4:ο.cnt=1/\ο.wt=1
  ·have jM:cc=0:=by omega
   refine⟨{ο with cnt:=cc},.ch k .done .l2,Pj,rfl,⟨rfl,rfl,rfl⟩,by rw[mc];exact .Sb j4.1 j4.2,λcA eE=>.inl ⟨λv=>ξ v 1,?_⟩⟩;have rn:cT {ο with cnt:=cc}=iF 0 1:=by rw[vh,jM];simp only[j4.2]
   rw[rn];refine ad.back rfl rfl w8 eg ?_;refine ad.part (bs (ξ _ _)) rfl Υ rfl (by simp[Frame.enter]) [7] [] rfl λΘ θ=>?_;(repeat (refine hn ?_;simp));refine θ _ ?_;refine ad.bF (bs (ξ _ _)) rfl ?_;refine ZM Ο ?_ rfl rfl rfl rfl;exact ad.back (nt:=4) rfl rfl π.size (Bm ζ π.cx) (ad.bF en rfl (ad.Pd rfl rfl rfl rfl Tryz.func142 rfl qS Ι))
  ·refine⟨{ο with cnt:=cc},.ch k .done .gone,Pj,rfl,⟨rfl,rfl,rfl⟩,by rw[mc];exact .Sc R,λcA eE=>.inr ⟨Ο.gone,?_⟩⟩;have rn:cT {ο with cnt:=cc}=iF cc ο.wt:=rfl;rw[rn];refine ad.back rfl rfl w8 eg ?_;refine ad.part en rfl Υ rfl (by simp[Frame.enter]) [7] [] rfl λΘ θ=>?_;(repeat (refine hn ?_;simp));refine θ _ ?_;refine ad.bF en rfl ?_;refine ZI ?_ (cc:=cc) (w0:=ο.wt) Bs.2.2.1 Bs.2.2.2 R rfl rfl rfl rfl;exact ad.back (nt:=4) rfl rfl π.size (Bm ζ π.cx) (ad.bF en rfl (ad.Pd rfl rfl rfl rfl Tryz.func142 rfl qS Ι))
 ·cases i with
  | zero=>simp at J U;subst J;subst U;exact .z _
  | succ i=>simp at J
end
end Go.TL
