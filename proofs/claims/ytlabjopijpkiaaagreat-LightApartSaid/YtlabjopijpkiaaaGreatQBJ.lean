import Derived.Test.YtlabjopijpkiaaaGreatQBI
set_option maxHeartbeats 16000000
set_option maxRecDepth 20000
set_option linter.unusedSectionVars false
set_option linter.unusedSimpArgs false
set_option linter.unusedVariables false
namespace Go.TL
open Go.Conc Go.Proofs
open Go.ConcN (sumTo upd sumTo_upd upd_ne upd_same sumTo_congr le_sumTo)
noncomputable def zO:Code:=Tryz.f146.body.getD .skip
noncomputable def mP:Code:=dx [1,0,0] zO
noncomputable def vb:List Item:=[.inLoop mP,.inBlock 0]
theorem Np:fH .u64 0 2147483648=0:=by decide
theorem Nq:fH .u64 0 2147483647=0:=by decide
theorem Dr:IntKind.u32.wrap 0=0:=by decide
theorem Nr:IntKind.i32.wrap 0=0:=by decide
section
variable {Q:Value→Prop} {mn:Bool} {x:aR} {c:Frame} {rest:List Frame} {S:aA} {B:aN} {σ:List Row} {H:ψ} {s n p:Nat} {sp:Spec} {v:Option (Nat×aK)} {t:Tok}
abbrev tm (Q:Value→Prop) (mn:Bool) (x:aR) (c:Frame) (rest:List Frame) (S:aA) (H:ψ) (s:Nat) (t:Tok) (v:Option (Nat×aK)) (d:Nat) (K:List Item) (env:Χ):Prop:=
 V Tryz.prog Q mn (one (br x s t v d)) (Frame.enter Tryz.prog 146 #[ptr s 0] .normal) (c::rest) 84 ⟨S,[],H,[],0⟩ K env []
def qK (Q:Value→Prop) (mn:Bool) (x:aR) (c:Frame) (rest:List Frame) (S:aA) (H:ψ) (s n:Nat) (sp:Spec):Prop:=
 ∀(au:aA) (H':ψ) (fM fh:List Nat) (gj ej:ψ),Ext S [] H au [] H'→Holds au [] [] H'→fM.Perm (List.range n)→kM sp.D fM gj→(sp.aQ≠none→fh.Perm (List.range n)∧sp.aG fh ej)→(sp.aQ=none→ej=ψ.empty)→Apart H' gj→Apart H' ej→Apart gj ej→(∃w,Fits H' w∧Fits gj w∧Fits ej w)→
  ∀(v:Option (Nat×aK)) (cO:aA) (bJ:ψ),Ext eX [] (join (join H' gj) ej) cO [] bJ→cf Tryz.prog Q mn (br x s (.par n 0 .bw) v 0) (c.finish (.tuple #[])) rest bJ
theorem qK.later {cO:aA} {bJ:ψ} (h:qK Q mn x c rest S H s n sp) (he:Ext S [] H cO [] bJ):qK Q mn x c rest cO bJ s n sp:=
 fun au H' fM fh gj ej a1 bg cv fK ha lx tJ si xU Ez v jW iF xV=>h au H' fM fh gj ej (he.trans a1) bg cv fK ha lx tJ si xU Ez v jW iF xV
theorem Ns (η:lf x s sp) (Ζ:∀(v:Option (Nat×aK)) (cO:aA) (bJ:ψ),Ext eX [] H cO [] bJ→cf Tryz.prog Q mn (br x s (.par n 0 .bw) v 0) (c.finish (.tuple #[])) rest bJ) {K:List Item} {env:Χ}:tm Q mn x c rest eX H s (.par n 0 .bw) v 0 (.code .ret::K) env:=by
 letI:bd:=eF;have δ:=η.seq;refine V.Hh (δ _ _ _) rfl rfl rfl rfl Tryz.func146 rfl fun bE bK H1 μ Α=>?_;obtain rfl:bK=[]:=dq.1 Α.len;rintro y rfl;exact Ζ v bE H1 μ.ext
theorem Nt (η:lf x s sp) (cY:qK Q mn x c rest S H s n sp):tm Q mn x c rest S H s (.par n 0 .lp) v 1 (.code (dx [0,1] mP)::.inBlock 1::vb) [(0,.z (ptr s 0)),(2,.z (.int .u64 0))]:=by
 letI:bd:=eF;have δ:=η.seq;refine V.a' (δ _ _ _) rfl ?_;unfold mP zO;(repeat (first|apply aV|apply wb|apply aX|apply wd|refine al rfl ?_|refine ah rfl ?_|(refine ν fun J I=>?_;simp;(repeat (rw[ζ];simp[Np,Nq,Dr,Nr]));apply I;clear I J)));refine W.ca (.stop ?_);refine V.enable (δ _ _ _).here (Nat.succ_pos _) ⟨⟨rfl,rfl,by simp[Frame.enter],rfl⟩,th,⟨_,rfl⟩,rfl,rfl,rfl⟩ ?_;rw[zz];refine V.a' (δ _ _ _) rfl ?_;refine W.bB ?_;refine W.ca ?_;refine W.part (A:=[]) Θ [0] [1,2] rfl fun J I=>?_;(try simp);(repeat (rw[ζ];simp));apply I;clear I J;refine W.stop ?_;refine V.conv (δ _ _ _).here (sp:=sp) η.spec (by rw[bZ];exact id) ⟨rfl,rfl,by simp[Frame.enter],rfl⟩ rfl rfl rfl Hr ti Hs rfl (fun π w Β bx=>⟨_,bx.cH⟩) (fun φ π ξ=>?_);unfold hG;rw[jF];refine V.A6 η.rel rfl (sp:=sp) η.spec bZ (.inl rfl) ⟨⟨rfl,rfl,by simp[Frame.enter],rfl⟩,De,⟨_,rfl⟩,rfl,rfl,rfl⟩ fun bE bK H1 t1 fM fh gj ej μ χ bI dc fB lD sY HC HD HE=>?_;rw[gD];obtain rfl:bK=[]:=dq.1 χ.holds.len;have Ζ:=cY bE H1 fM fh gj ej μ.ext χ.holds bI dc fB lD sY HC HD HE;refine V.here (x:=one _) (S:=eX) (B:=[]) (σ:=[]) (m:=0) (nt:=84) ?_ (χ.none (by simp)) _ rfl;refine V.a' (δ _ _ _) rfl ?_;refine W.bB ?_;(repeat (first|apply aV|apply wb|apply aX|apply wd|refine al rfl ?_|refine ah rfl ?_|(refine ν fun J I=>?_;simp;(repeat (rw[ζ];simp[Np,Nq,Dr,Nr]));apply I;clear I J)));exact .stop (Ns η Ζ)
theorem Xk (η:lf x s sp) (cY:qK Q mn x c rest S H s n sp):tm Q mn x c rest S H s (.par n 0 .w4) v 1 (.code (dx [0,1,1,1,1,1,0,1,1,1,1] mP)::.inBlock 1::vb) [(0,.z (ptr s 0))]:=by
 letI:bd:=eF;have δ:=η.seq;refine V.a' (δ _ _ _) rfl ?_;unfold mP zO
 repeat first|apply aV|apply wb|apply aX|apply wd
 refine W.ca ?_;refine W.part (A:=[]) Θ [0,1,2] [3,4,5] rfl fun J I=>?_;(try simp);(repeat (rw[ζ];simp));apply I;clear I J;refine W.stop ?_;refine V.call (δ _ _ _) ⟨rfl,rfl,by simp[Frame.enter],rfl⟩ rfl rfl rfl ⟨_,Tryz.func168,rfl,rfl⟩ fun bE bK H1 t1 oq μ χ hv=>?_;obtain rfl:=l4 (l:=[ptr s 0]) hv;obtain rfl:bK=[]:=dq.1 χ.holds.len;rintro y rfl;refine HA η id χ.holds fun φ π ξ=>.inl fun cO bJ ku iA=>?_;have υ:=ξ.iJ.r5;rw[bZ] at υ;obtain⟨Ξ,ad,aT⟩:=υ.fin n 0 (.inr (.inl rfl));have Τ:cF π=0:=by simp only[cF,Ξ,aT];rfl
 rw[Τ,hO rfl];have xc:=cY.later (μ.ext.trans ku);refine V.here (x:=one _) (m:=0) (nt:=84) ?_ ((χ.put (a:=.z (.int .u64 0)) rfl (.z _)).fI (by simp) iA) _ rfl;refine V.a' (δ _ _ _) rfl ?_;refine W.part (A:=[]) Θ [4,5] [] rfl fun J I=>?_;(try simp);(repeat (rw[ζ];simp));(try simp[]);apply I;clear I J;refine W.bB ?_;(repeat (first|apply aV|apply wb|apply aX|apply wd|refine al rfl ?_|refine ah rfl ?_|(refine ν fun J I=>?_;simp;(repeat (rw[ζ];simp));apply I;clear I J)));refine W.ca (.stop ?_);refine V.enable (δ _ _ _).here (Nat.succ_pos _) ⟨⟨rfl,rfl,by simp[Frame.enter],rfl⟩,th,⟨_,rfl⟩,rfl,rfl,rfl⟩ ?_;rw[zz];refine V.a' (δ _ _ _) rfl ?_;refine W.bB ?_;refine W.ca ?_;refine W.part (A:=[]) Θ [0] [1,2] rfl fun J I=>?_;(try simp);(repeat (rw[ζ];simp));apply I;clear I J;refine W.stop ?_;refine V.conv (δ _ _ _).here (sp:=sp) η.spec (by rw[bZ];exact id) ⟨rfl,rfl,by simp[Frame.enter],rfl⟩ rfl rfl rfl Hr ti Hs rfl (fun π w Β bx=>⟨_,bx.cH⟩) (fun φ π ξ=>?_);unfold hG;rw[jF];refine V.A6 η.rel rfl (sp:=sp) η.spec bZ (.inr rfl) ⟨⟨rfl,rfl,by simp[Frame.enter],rfl⟩,De,⟨_,rfl⟩,rfl,rfl,rfl⟩ fun bE bK H1 t1 fM fh gj ej μ χ bI dc fB lD sY HC HD HE=>?_;rw[gD];obtain rfl:bK=[]:=dq.1 χ.holds.len;have Ζ:=xc bE H1 fM fh gj ej μ.ext χ.holds bI dc fB lD sY HC HD HE;refine V.here (x:=one _) (S:=eX) (B:=[]) (σ:=[]) (m:=0) (nt:=84) ?_ (χ.none (by simp)) _ rfl;refine V.a' (δ _ _ _) rfl ?_;refine W.bB ?_;(repeat (first|apply aV|apply wb|apply aX|apply wd|refine al rfl ?_|refine ah rfl ?_|(refine ν fun J I=>?_;simp;(repeat (rw[ζ];simp));apply I;clear I J)));exact .stop (Ns η Ζ)
theorem Xl {a b d:Nat} (h:a≤b) (R:b<7):a<8∧a<7:=by omega
theorem Xm {a b:Nat} (h:a<b):¬b=0:=by omega
theorem Xn (η:lf x s sp) (cY:qK Q mn x c rest S H s n sp) {φ:Nat} {π:aK}:tm Q mn x c rest S H s (.par n 0 .w3) (some (φ,π)) 1 (.code (dx [0,1,1,1,1,1,0,1,1,1,0] mP)::.code (dx [0,1,1,1,1,1,0,1,1,1,1] mP)::.inBlock 1::vb) [(0,.z (ptr s 0)),(5,.z (.bool false))]:=by
 letI:bd:=eF;have δ:=η.seq;have woken:∀v,tm Q mn x c rest S H s (.par n 0 .w4) v 1 (.code (dx [0,1,1,1,1,1,0,1,1,1,1] mP)::.inBlock 1::vb) [(0,.z (ptr s 0))]:=fun v=>Xk η cY;refine V.a' (δ _ _ _) rfl ?_;unfold mP zO;refine W.ca ?_;refine W.part (A:=[]) Θ [0,1,2,3] [4] rfl fun J I=>?_;(try simp);(repeat (rw[ζ];simp));apply I;clear I J;refine W.stop ?_;refine V.Wj (δ _ _ _).here (sp:=sp) η.spec (by rw[bZ];exact id) (vs:=[ptr s 1,.bool false]) rfl (fun bj im=>by rw[zA im];exact η.still bj im) ⟨⟨rfl,rfl,by simp[Frame.enter],rfl⟩,WS,⟨_,rfl⟩,rfl,rfl,rfl⟩ (fun gF π ξ h=>by rw[bZ];exact h) (fun gF π ξ h=>?_);refine⟨{π with cz:=π.cz-1},.par n 0 .w4,rfl,rfl,⟨rfl,rfl,rfl⟩,by rw[bZ];exact .wake h,fun hn ec=>?_⟩;rw[gD];refine V.a' (δ _ _ _) rfl ?_;refine W.bB ?_;refine W.forget [(0,.z (ptr s 0))] (by simp) (.stop ?_);exact woken _
theorem Xo (η:lf x s sp):∀(N φ:Nat) (π:aK) (S:aA) (H:ψ),φ<N→π.toSpec=sp→0<π.cnt→π.cnt≤π.top→π.wt=0→qK Q mn x c rest S H s n sp→
  tm Q mn x c rest S H s (.par n 0 .add) (some (φ,π)) 1 (.code (dx [0,1] mP)::.inBlock 1::vb) [(0,.z (ptr s 0)),(2,.z (.int .u64 (cF π)))]:=by
 letI:bd:=eF;have δ:=η.seq;intro N
 induction N with
 | zero=>intro φ π S H h;exact absurd h (Nat.not_lt_zero _)
 | succ N zH=>
  intro φ π S H cm Β AZ xd p0 cY;have gg:=Dq η Β;obtain⟨k1,cx⟩:=Xl (d:=0) xd gg;have f1:=Dm π.cnt k1 0 (by decide);have f2:=Dn π.cnt k1 0 (by decide);have f3:=Dp π.cnt k1 0 (by decide);have f4:=Xg π.cnt k1;have x8:cF π=hA π.cnt 0:=by rw[tl,p0]
  have bu:¬π.cnt=0:=Xm AZ
  have CV:¬(π.cnt:Int)=0:=fun h=>bu (by exact_mod_cast h);rw[←x8] at f1 f2 f3 f4;have sleep:∀(S H) (φ:Nat) (π:aK),qK Q mn x c rest S H s n sp→tm Q mn x c rest S H s (.par n 0 .w3) (some (φ,π)) 1 (.code (dx [0,1,1,1,1,1,0,1,1,1,0] mP)::.code (dx [0,1,1,1,1,1,0,1,1,1,1] mP)::.inBlock 1::vb) [(0,.z (ptr s 0)),(5,.z (.bool false))]:=fun S H φ π cY=>Xn η cY;have lp:∀(S H v),qK Q mn x c rest S H s n sp→tm Q mn x c rest S H s (.par n 0 .lp) v 1 (.code (dx [0,1] mP)::.inBlock 1::vb) [(0,.z (ptr s 0)),(2,.z (.int .u64 0))]:=fun S H v cY=>Nt η cY;refine V.a' (δ _ _ _) rfl ?_;unfold mP zO;(repeat (first|apply aV|apply wb|apply aX|apply wd|refine al rfl ?_|refine ah rfl ?_|(refine ν fun J I=>?_;simp;(repeat (rw[ζ];simp[f2,f3,bu,CV]));apply I;clear I J)));refine W.ca ?_;refine W.part (A:=[]) Θ [0,1,2,3,4,5] [6] rfl fun J I=>?_;(try simp);(repeat (rw[ζ];simp[f4]));(try simp[f4]);apply I;clear I J;refine W.stop ?_;refine V.call (δ _ _ _) ⟨rfl,rfl,by simp[Frame.enter],rfl⟩ rfl rfl rfl ⟨_,Tryz.func179,rfl,rfl⟩ fun bE bK H1 t1 oq μ χ hv=>?_;obtain rfl:=l4 (l:=[ptr s 0,.int .u64 (cF π),.int .u64 (hA π.cnt 1)]) hv;obtain rfl:bK=[]:=dq.1 χ.holds.len;rintro y rfl;refine Xi η id χ.holds (fun gF fA ξ hv cO bJ ku iA=>?_) (fun gF fA ξ hv=>?_)
  ·have pa:=ξ.view φ π oB
   have ay:gF<N:=by
    rcases Nat.lt_or_ge gF φ with h|h
    ·exact Nat.lt_of_lt_of_le h (Nat.le_of_lt_succ cm)
    ·exact absurd (by rw[pa.2 (Nat.le_antisymm pa.1 h)]) hv
   have xc:=cY.later (μ.ext.trans ku);rw[hO rfl];refine V.here (x:=one _) (m:=0) (nt:=84) ?_ ((χ.put (a:=.z (.bool false)) rfl (.z _)).fI (by simp) iA) _ rfl;refine V.a' (δ _ _ _) rfl ?_;refine W.bB ?_;refine ah rfl ?_
   repeat first|apply aV|apply wb|apply aX|apply wd
   refine W.inLoop ?_;refine W.forget [(0,.z (ptr s 0))] (by simp) ?_
   repeat first|apply aV|apply wb|apply aX|apply wd
   refine W.ca ?_;refine W.part (A:=[]) Θ [0,1,2] [3,4] rfl fun J I=>?_;(try simp);(repeat (rw[ζ];simp));apply I;clear I J;refine W.stop ?_;refine V.call (δ _ _ _) ⟨rfl,rfl,by simp[Frame.enter],rfl⟩ rfl rfl rfl ⟨_,Tryz.func168,rfl,rfl⟩ fun jW jX iF t3 HF g5 fb rO=>?_;obtain rfl:=l4 (l:=[ptr s 0]) rO;obtain rfl:jX=[]:=dq.1 fb.holds.len;rintro y rfl;refine HA η id fb.holds fun hn fr dI=>?_;have eU:=dI.iJ.r5;rw[bZ] at eU;obtain⟨ew,en,ia,rq,sP⟩:=eU.add n 0 rfl;have wJ:=dI.view gF fA oB;by_cases ae:fr.cnt=0
   ·refine .inr ⟨.par n 0 .lp,.thru ae,fun w8 Xp jf jg nD j5=>?_⟩;have Τ:cF fr=0:=by simp only[cF,ew,ae];rfl
    rw[Τ,hO rfl];have vc:=xc.later (g5.ext.trans nD);refine V.here (x:=one _) (m:=0) (nt:=84) ?_ ((fb.put (a:=.z (.int .u64 0)) rfl (.z _)).fI (by simp) j5) _ rfl;refine V.a' (δ _ _ _) rfl ?_;refine W.part (A:=[]) Θ [4] [] rfl fun J I=>?_;(try simp);(repeat (rw[ζ];simp));(try simp[]);apply I;clear I J;refine W.bB ?_;refine W.forget [(0,.z (ptr s 0)),(2,.z (.int .u64 0))] (by simp) (.stop ?_);exact lp _ _ _ vc
   ·refine .inl fun jf jg nD j5=>?_;rw[hO rfl];have vc:=xc.later (g5.ext.trans nD);refine V.here (x:=one _) (m:=0) (nt:=84) ?_ ((fb.put (a:=.z (.int .u64 (cF fr))) rfl (.z _)).fI (by simp) j5) _ rfl;refine V.a' (δ _ _ _) rfl ?_;refine W.part (A:=[]) Θ [4] [] rfl fun J I=>?_;(try simp);(repeat (rw[ζ];simp));(try simp[]);apply I;clear I J;refine W.bB ?_;refine W.forget [(0,.z (ptr s 0)),(2,.z (.int .u64 (cF fr)))] (by simp) (.stop ?_);exact zH hn fr jf jg (Nat.lt_of_le_of_lt wJ.1 ay) dI.spec (Nat.pos_of_ne_zero ae) eU.cnt ew vc
  ·have iw:=ξ.iJ.r5;rw[bZ] at iw;obtain⟨ew,en,ia,rq,sP⟩:=iw.add n 0 rfl;have nZ:fA.cnt=π.cnt:=by rw[x8,tl,ew] at hv;simp only[hA] at hv;omega
   refine⟨{fA with wt:=1},.par n 0 .w3,?_,rfl,⟨rfl,rfl,rfl⟩,.Jm (by rw[nZ];exact AZ),fun hn gν cO bJ ku iA=>?_⟩
   ·rw[tl];simp only[nZ]
   rw[hO rfl];have xc:=cY.later (μ.ext.trans ku);refine V.here (x:=one _) (m:=0) (nt:=84) ?_ ((χ.put (a:=.z (.bool true)) rfl (.z _)).fI (by simp) iA) _ rfl;refine V.a' (δ _ _ _) rfl ?_;refine W.bB ?_;refine al rfl ?_;(repeat (first|apply aV|apply wb|apply aX|apply wd|refine al rfl ?_|refine ah rfl ?_|(refine ν fun J I=>?_;simp;(repeat (rw[ζ];simp));apply I;clear I J)));refine W.ca ?_;refine W.part (A:=[]) Θ [0,1,2] [3,4] rfl fun J I=>?_;(try simp);(repeat (rw[ζ];simp));apply I;clear I J;refine W.stop ?_;refine V.conv (δ _ _ _).here (sp:=sp) η.spec (by rw[bZ];exact id) ⟨rfl,rfl,by simp[Frame.enter],rfl⟩ rfl rfl rfl M3 ti M4 rfl (fun π w Β bx=>⟨_,bx.Ξ⟩) (fun φ π ξ=>?_);unfold hG;rw[jF];refine V.Wg η.rel bZ (by simp) ⟨⟨rfl,rfl,by simp[Frame.enter],rfl⟩,WL,⟨_,rfl⟩,rfl,rfl,rfl⟩ ?_;refine V.a' (δ _ _ _) rfl ?_;refine W.bB ?_;(repeat (first|apply aV|apply wb|apply aX|apply wd|refine al rfl ?_|refine ah rfl ?_|(refine ν fun J I=>?_;simp;(repeat (rw[ζ];simp[f1]));apply I;clear I J)));refine W.forget [(0,.z (ptr s 0)),(5,.z (.bool false))] (by simp) (.stop ?_);exact sleep _ _ _ _ xc
theorem Xq (η:lf x s sp) (Α:Holds S B σ H) (cY:qK Q mn x c rest S H s n sp) :
  cf Tryz.prog Q mn (br x s (.par n 0 .add) v 0) (Frame.enter Tryz.prog 146 #[ptr s 0] .normal) (c::rest) H:=by
 letI:bd:=eF;have δ:=η.seq;refine V.pz (z:=one _) (vs:=[ptr s 0]) Tryz.func146 rfl Α (by simp[Tryz.ntmps146]) ?_ _ rfl;refine V.a' (δ _ _ _) rfl ?_;(repeat (first|apply aV|apply wb|apply aX|apply wd|refine al rfl ?_|refine ah rfl ?_|(refine ν fun J I=>?_;simp;(repeat (rw[ζ];simp));apply I;clear I J)));refine W.ca (.stop ?_);refine V.disable (δ _ _ _).here ⟨⟨rfl,rfl,by simp[Frame.enter],rfl⟩,zC,⟨_,rfl⟩,rfl,rfl,rfl⟩ ?_;rw[zy];refine V.a' (δ _ _ _) rfl ?_;refine W.bB ?_
 repeat first|apply aV|apply wb|apply aX|apply wd
 refine W.loop ?_
 repeat first|apply aV|apply wb|apply aX|apply wd
 refine W.ca ?_;refine W.part (A:=[]) Θ [0,1,2] [3,4] rfl fun J I=>?_;(try simp);(repeat (rw[ζ];simp));apply I;clear I J;refine W.stop ?_;refine V.call (δ _ _ _) ⟨rfl,rfl,by simp[Frame.enter],rfl⟩ rfl rfl rfl ⟨_,Tryz.func168,rfl,rfl⟩ fun jW jX iF t3 HF g5 fb rO=>?_;obtain rfl:=l4 (l:=[ptr s 0]) rO;obtain rfl:jX=[]:=dq.1 fb.holds.len;rintro y rfl;refine HA η id fb.holds fun hn fr dI=>?_;have eU:=dI.iJ.r5;rw[bZ] at eU;obtain⟨ew,en,ia,rq,sP⟩:=eU.add n 0 rfl;by_cases ae:fr.cnt=0
 ·refine .inr ⟨.par n 0 .lp,.thru ae,fun w8 Xp jf jg nD j5=>?_⟩;have Τ:cF fr=0:=by simp only[cF,ew,ae];rfl
  rw[Τ,hO rfl];have vc:=cY.later (g5.ext.trans nD);refine V.here (x:=one _) (m:=0) (nt:=84) ?_ ((fb.put (a:=.z (.int .u64 0)) rfl (.z _)).fI (by simp) j5) _ rfl;refine V.a' (δ _ _ _) rfl ?_;refine W.part (A:=[]) Θ [4] [] rfl fun J I=>?_;(try simp);(repeat (rw[ζ];simp));(try simp[]);apply I;clear I J;refine W.bB ?_;refine W.forget [(0,.z (ptr s 0)),(2,.z (.int .u64 0))] (by simp) (.stop ?_);exact Nt η vc
 ·refine .inl fun jf jg nD j5=>?_;rw[hO rfl];have vc:=cY.later (g5.ext.trans nD);refine V.here (x:=one _) (m:=0) (nt:=84) ?_ ((fb.put (a:=.z (.int .u64 (cF fr))) rfl (.z _)).fI (by simp) j5) _ rfl;refine V.a' (δ _ _ _) rfl ?_;refine W.part (A:=[]) Θ [4] [] rfl fun J I=>?_;(try simp);(repeat (rw[ζ];simp));(try simp[]);apply I;clear I J;refine W.bB ?_;refine W.forget [(0,.z (ptr s 0)),(2,.z (.int .u64 (cF fr)))] (by simp) (.stop ?_);exact Xo η (hn+1) hn fr jf jg (Nat.lt_succ_self _) dI.spec (Nat.pos_of_ne_zero ae) eU.cnt ew vc
end
end Go.TL
namespace Go.TL
open Go.Conc Go.Proofs
open Go.ConcN (sumTo upd sumTo_upd upd_ne upd_same sumTo_congr le_sumTo)
variable [bd]
def cr.xe:cr→θ→Prop
 | .ok a,b=>a=b
 | .b2 p r,b=>p∧r.xe b
 | .bad,_=>False
def ik (P:Program) {α:Type} (s:Sem α) (a:α):Prop:=∀w,s.run P w=.ok a w∧∀es,s.events P w es=es
section
variable {P:Program} {T:a7} {α β:Type}
theorem ik.pure (a:α):ik P (Pure.pure a) a:=fun w=>⟨by simp,fun es=>by simp⟩
theorem ik.bind {s:Sem α} {f:α→Sem β} {a:α} {b:β} (h:ik P s a) (k:ik P (f a) b):ik P (s >>= f) b:=fun w=>⟨by simp[(h w).1,(k w).1,Result.andThen],fun es=>by simp[(h w).1,(h w).2,(k w).2,Result.evThen]⟩
theorem ik.program:ik P Go.program P:=fun w=>⟨by simp,fun es=>by simp⟩
theorem ik.underlying {t:TypeId} {d:TypeDesc} (h:P.underlying t=some d):ik P (Go.underlying t) d:=fun w=>⟨run_underlying h w,fun es=>by simp⟩
theorem ik.sizeOf {t:TypeId} {i:TypeInfo} (hi:P.info? t=some i):ik P (Go.sizeOf t) i.size:=by
 unfold Go.sizeOf Go.typeInfo;refine ik.bind (ik.bind .program ?_) (ik.pure _);show ik P (match P.info? t with|some i=>Pure.pure i|none=>_) i;rw[hi];exact .pure _
theorem Xr {op:BinOp} {ty:TypeId} {p q:Operand} {x y v:Value} (h:(rl op x y).xe (.z v)):ik P (do eqGuard op ty p q x y;binOp op ty x y) v:=by
 unfold rl at h;split at h
 case h_25=>exact h.elim
 case h_1=>
  obtain⟨R,γ⟩:=h;cases γ;have cP:¬(_:Int)<0:=Int.not_lt.2 R;simp only[eqGuard,binOp,Op.shift,cP,if_false];exact .pure _
 case h_2=>
  obtain⟨R,γ⟩:=h;cases γ;have cP:¬(_:Int)<0:=Int.not_lt.2 R;simp only[eqGuard,binOp,Op.shift,cP,if_false];exact .pure _
 case h_6=>
  split at h
  ·rename_i e;subst e;obtain⟨R,γ⟩:=h;cases γ;simp only[eqGuard,binOp,Op.intDiv,R,if_false,ne_eq,not_true_eq_false];exact .pure _
  ·exact h.elim
 case h_7=>
  split at h
  ·rename_i e;subst e;obtain⟨R,γ⟩:=h;cases γ;simp only[eqGuard,binOp,Op.intDiv,R,if_false,ne_eq,not_true_eq_false];exact .pure _
  ·exact h.elim
 case h_18=>
  obtain⟨R,γ⟩:=h;cases γ;have cP:¬((_:Int) > IntKind.i64.max):=Int.not_lt.2 R;simp only[eqGuard,binOp,Op.stringOp,cP,if_false];exact .pure _
 all_goals first
  |(cases h;exact .pure _)
  |(split at h
    ·rename_i e;subst e;cases h;simp only[eqGuard,binOp,Op.intArith,Op.intBits,Op.intCmp,ne_eq,not_true_eq_false,if_false];exact .pure _
    ·exact h.elim)
def xf (T:a7) (env:Χ) (o:Oper):cr:=match o.op with
 | .move x=>.ok (aL env x)
 | .assign x=>.ok (aL env x)
 | .pick c a b=>wv (aL env c) (aL env a) (aL env b)
 | .binOp op _ x y _=>match aL env x,aL env y with
  | .z a,.z b=>rl op a b
  | _,_=>.bad
 | .unOp op _ x=>v3 op (aL env x)
 | .convert s d x=>we T s d (aL env x)
 | .nilCheck x=>match aL env x with
  | .z (.pointer (some a))=>.ok (.z (.pointer (some a)))
  | _=>.bad
 | .fieldAddr ty x f=>match aL env x with
  | .z (.pointer (some ⟨b,o',none⟩))=>match fR T ty f with|some (o,_)=>.ok (.z (.pointer (some ⟨b,o'+o,none⟩)))|none=>.bad
  | _=>.bad
 | _=>.bad
theorem Xs (Ζ:bN P T) {env:Χ} {o:Oper} {v:Value} (h:(xf T env o).xe (.z v)) {ρ:Operand→Value} (mQ:∀y u,aL env y=.z u→ρ y=u):ik P (execOp ρ o) (.value v):=by
 have val:∀{s:Sem Value} {u:Value},ik P s u→ik P (do Pure.pure (Next.value (←s))) (.value u):=fun ξ=>.bind ξ (.pure _);unfold xf at h;unfold execOp;split at h<;>rename_i Β<;>first|(rw[Β];simp only)|exact h.elim
 ·rw[mQ _ _ h];exact .pure _
 ·rw[mQ _ _ h];exact .pure _
 ·rename_i c a b;unfold wv at h;split at h
  ·rename_i bv η;rw[mQ _ _ η];refine ik.bind (a:=bv) (ik.pure _) ?_;split at h
   ·rename_i y z Ο Ν;cases h;rw[mQ _ _ Ο,mQ _ _ Ν];cases bv<;>exact .pure _
   ·cases bv with
    | true=>rw[mQ a v h];exact .pure _
    | false=>rw[mQ b v h];exact .pure _
  ·exact h.elim
 ·split at h
  ·rename_i x y δ Ο;rw[mQ _ _ δ,mQ _ _ Ο];exact val (Xr h)
  ·exact h.elim
 ·unfold v3 at h;split at h
  ·rename_i bv hb;rw[mQ _ _ hb];split at h
   ·cases h;exact val (.pure _)
   ·exact h.elim
  ·rename_i k n hb;rw[mQ _ _ hb];split at h
   ·cases h;exact val (.pure _)
   ·exact h.elim
  ·exact h.elim
 ·unfold we at h;split at h
  ·rename_i i j hi ε;split at h
   ·rename_i k kk n hu δ;cases h;rw[mQ _ _ δ];refine val ?_;unfold convert;refine .bind (.underlying (Ζ _ _ hi).1.1) (.bind (.underlying (Ζ _ _ ε).1.1) ?_);rw[hu];exact .pure _
   ·exact h.elim
  ·exact h.elim
 ·split at h
  ·rename_i a δ;cases h;rw[mQ _ _ δ];exact .pure _
  ·exact h.elim
 ·split at h
  ·rename_i b o' δ;rw[mQ _ _ δ];split at h
   ·rename_i dw yA Ρ;cases h;refine val ?_;unfold fR at Ρ;split at Ρ<;>try cases Ρ
    rename_i i hi;split at Ρ<;>try cases Ρ
    rename_i cV hu;split at Ρ<;>try cases Ρ
    rename_i x δ;split at Ρ<;>try cases Ρ
    rename_i b8 n7;split at Ρ<;>try cases Ρ
    rename_i jO;unfold Instr.fieldAt;refine .bind (.underlying (Ζ _ _ hi).1.1) ?_;rw[hu];simp only[δ];refine .bind (a:=⟨b,o',none⟩) (.pure _) ?_;obtain⟨f,kr,oa,_⟩:=(Ζ _ _ n7).2;refine .bind (a:=⟨b,o'+x.offset,none⟩) ?_ (.pure _);unfold fieldPlace;refine .bind (.sizeOf kr) ?_;rw[oa,if_neg jO,sJ];exact .pure _
   ·exact h.elim
  ·exact h.elim
end
theorem Xt (vs:List Value) {nt:Nat} (Η:vs.length≤nt):c7 eX [] [] (entry 0 (vs.map θ.z)) (vs.toArray++Array.replicate (nt-vs.length) undef):=by
 have κ:fl eX [] [] (vs.map θ.z) vs.toArray:=⟨by simp,fun i a v R γ=>by
  simp only[List.getElem?_map,List.getElem?_toArray] at R γ;rw[γ] at R;cases R;exact .z v⟩
 have:=(fj.enter (xa ψ.empty) (m:=0) (nt:=nt) κ (Nat.le_refl _) (by simpa using Η)).cj;simpa using this
def HG (P:Program) (mn:Bool) (dg:Goroutine→Prop):Prop:=∀g g',h1 g→(∀w,stepG P mn g w=.go g' w #[])→dg g'→dg g
def Ψ (dg:Goroutine→Prop) (b:Frame) (cs:List Frame) (nt:Nat) (k:List Item) (env:Χ):Prop:=∀t:Array Value,t.size=nt→c7 eX [] [] env t→dg (Go.Conc.G (ao b t k) cs)
def l8 (T:a7) (nt:Nat) (ops:Array Oper):List Nat→Χ→(Χ→Prop)→Prop
 | [],env,K=>K env
 | i::is,env,K=>gz ops[i]? fun o=>hB nt o=true∧gz (fp env ops o) fun w=>
   jd w (l8 T nt ops is (b5 o env .cp) K) (∃v,(xf T env o).xe (.z v)∧l8 T nt ops is (b5 o env (.z v)) K)
theorem vd {T:a7} {nt:Nat} {ops:Array Oper} {env:Χ} {K:Χ→Prop}:l8 T nt ops [] env K=K env:=Eq.trans rfl rfl
def ve (T:a7) (nt:Nat) (ops:Array Oper) (is:List Nat) (o:Oper) (env:Χ) (K:Χ→Prop):cr→Prop
 | .ok (.z v)=>l8 T nt ops is (b5 o env (.z v)) K
 | .b2 p (.ok (.z v))=>p∧l8 T nt ops is (b5 o env (.z v)) K
 | _=>False
theorem Xu {T:a7} {nt:Nat} {ops:Array Oper} {is:List Nat} {o:Oper} {env:Χ} {K:Χ→Prop} {v:Value}:ve T nt ops is o env K (.ok (.z v))=l8 T nt ops is (b5 o env (.z v)) K:=Eq.trans rfl rfl
theorem Xv {T:a7} {nt:Nat} {ops:Array Oper} {is:List Nat} {o:Oper} {env:Χ} {K:Χ→Prop} {v:Value} {p:Prop}:ve T nt ops is o env K (.b2 p (.ok (.z v)))=(p∧l8 T nt ops is (b5 o env (.z v)) K):=Eq.trans rfl rfl
theorem Xw {T:a7} {nt:Nat} {ops:Array Oper} {is:List Nat} {o:Oper} {env:Χ} {K:Χ→Prop} {r r':cr} (h:r=r'):ve T nt ops is o env K r=ve T nt ops is o env K r':=by rw[h]
theorem Xx {T:a7} {nt:Nat} {ops:Array Oper} {is:List Nat} {o:Oper} {env:Χ} {K:Χ→Prop} {r:cr} (h:ve T nt ops is o env K r):∃v,r.xe (.z v)∧l8 T nt ops is (b5 o env (.z v)) K:=by
 unfold ve at h;split at h
 ·exact⟨_,rfl,h⟩
 ·exact⟨_,⟨h.1,rfl⟩,h.2⟩
 ·exact h.elim
theorem gG {T:a7} {nt:Nat} {ops:Array Oper} {i:Nat} {is:List Nat} {env:Χ} {K:Χ→Prop} (h:gz ops[i]? fun o=>hB nt o=true∧gz (fp env ops o) fun w=>jd w (l8 T nt ops is (b5 o env .cp) K) (ve T nt ops is o env K (xf T env o))):l8 T nt ops (i::is) env K:=by
 unfold l8;unfold gz at h ⊢;split at h
 ·exact h.elim
 rename_i o Β;refine⟨h.1,?_⟩
 replace h:=h.2
 split at h
 ·exact h.elim
 rename_i w hw;exact⟨h.1,fun e=>Xx (h.2 e)⟩
section
variable {P:Program} {T:a7} {mn:Bool} {dg:Goroutine→Prop} {b:Frame} {cs:List Frame} {nt:Nat} {k:List Item} {env:Χ} {ops:Array Oper} {i:Nat} {rest:List Nat} {op:Oper}
variable (fW:HG P mn dg) (hb:b.mode=.run)
include fW hb
theorem Ψ.to {Ω:List Item} (ξ:∀t w,stepG.exec P mn true (ao b t k) cs none w=.go (Go.Conc.G (ao b t Ω) cs) w #[]) (h:Ψ dg b cs nt Ω env):Ψ dg b cs nt k env:=
 fun t R γ=>fW _ _ ⟨rfl,rfl⟩ (fun w=>(iB hb w).trans (ξ t w)) (h t R γ)
theorem Ψ.skip (h:Ψ dg b cs nt k env):Ψ dg b cs nt (.code .skip::k) env:=.to fW hb (fun _ _=>rfl) h
theorem Ψ.inBlock {l:Nat} (h:Ψ dg b cs nt k env):Ψ dg b cs nt (.inBlock l::k) env:=.to fW hb (fun _ _=>rfl) h
theorem Ψ.seq {a c:Code} (h:Ψ dg b cs nt (.code a::.code c::k) env):Ψ dg b cs nt (.code (.seq a c)::k) env:=.to fW hb (fun _ _=>rfl) h
theorem Ψ.block {l:Nat} {c:Code} (h:Ψ dg b cs nt (.code c::.inBlock l::k) env):Ψ dg b cs nt (.code (.block l c)::k) env:=.to fW hb (fun _ _=>rfl) h
theorem Ψ.loop {c:Code} (h:Ψ dg b cs nt (.code c::.inLoop c::k) env):Ψ dg b cs nt (.code (.loop c)::k) env:=.to fW hb (fun _ _=>rfl) h
theorem Ψ.inLoop {c:Code} (h:Ψ dg b cs nt (.code c::.inLoop c::k) env):Ψ dg b cs nt (.inLoop c::k) env:=.to fW hb (fun _ _=>rfl) h
theorem Ψ.ca {id:Nat} {ops:Array Oper} (h:Ψ dg b cs nt (.inRegion ops (idx ops.size [])::k) env):Ψ dg b cs nt (.code (.region id ops false)::k) env:=.to fW hb (fun _ _=>by rw[idx_eq];rfl) h
theorem Ψ.bB {ops:Array Oper} (h:Ψ dg b cs nt k env):Ψ dg b cs nt (.inRegion ops []::k) env:=.to fW hb (fun _ _=>rfl) h
theorem Ψ.exit {l:Nat} {Ω:List Item} (he:exitTo l k=some Ω) (h:Ψ dg b cs nt Ω env):Ψ dg b cs nt (.code (.exit l)::k) env:=by
 refine .to fW hb (fun t w=>?_) h;unfold stepG.exec;simp only[ao,he,Option.elim];rfl
theorem Ψ.cond {c:Operand} {a e:Code} {v:Bool} (η:aL env c=.z (.bool v)) (h:Ψ dg b cs nt (.code (if v then a else e)::k) env):Ψ dg b cs nt (.code (.cond c a e)::k) env:=by
 intro t R γ;refine fW _ _ ⟨rfl,rfl⟩ (fun w=>?_) (h t R γ);rw[iB hb w];have aZ:(ao b t (.code (.cond c a e)::k)).eval c=.bool v:=by rw[yp];exact C4 γ η
 unfold stepG.exec;simp only[ao] at aZ ⊢;rw[aZ];rfl
theorem Ψ.l9 {c:Operand} {a e:Code} (η:aL env c=.z (.bool true)) (h:Ψ dg b cs nt (.code a::k) env):Ψ dg b cs nt (.code (.cond c a e)::k) env:=.cond fW hb η h
theorem Ψ.l' {c:Operand} {a e:Code} (η:aL env c=.z (.bool false)) (h:Ψ dg b cs nt (.code e::k) env):Ψ dg b cs nt (.code (.cond c a e)::k) env:=.cond fW hb η h
theorem HH {t:Array Value} (h:c7 eX [] [] env t) (hd:hB nt op=true) (Μ:t.size=nt) {a:θ} {v:Value} (μ:aj eX [] [] a v):(put op t v).size=nt∧c7 eX [] [] (b5 op env a) (put op t v):=⟨(qm h hd Μ μ).2,(qm h hd Μ μ).1⟩
theorem Ψ.unwanted (Β:ops[i]?=some op) (hw:fp env ops op=some false) (hd:hB nt op=true) (h:Ψ dg b cs nt (.inRegion ops rest::k) (b5 op env .cp)):Ψ dg b cs nt (.inRegion ops (i::rest)::k) env:=by
 intro t R γ;obtain⟨s1,s2⟩:=HH (b:=b) fW hb γ hd R (a:=.cp) (v:=undef) (.cp _);refine fW _ _ ⟨rfl,rfl⟩ (fun w=>?_) (h _ s1 s2);rw[iB hb,←hO Β];have tR:((ops[i]?).map (Region.wanted · (yielded ops t))).getD false=false:=by simp[Β,jx γ hw]
 unfold stepG.exec;simp only[ao,tR];rfl
theorem Ψ.opn (Ζ:bN P T) (b7:b.roundOf=none) (υ:b.kind≠.early) (Β:ops[i]?=some op) (hw:fp env ops op=some true) (hd:hB nt op=true) {v:Value} (hv:(xf T env op).xe (.z v)) (h:Ψ dg b cs nt (.inRegion ops rest::k) (b5 op env (.z v))):Ψ dg b cs nt (.inRegion ops (i::rest)::k) env:=by
 intro t R γ;obtain⟨s1,s2⟩:=HH (b:=b) fW hb γ hd R (a:=.z v) (v:=v) (.z v);refine fW _ _ ⟨rfl,rfl⟩ (fun w=>?_) (h _ s1 s2);have ξ:=Xs Ζ hv (ρ:=bk t) fun y u Ο=>C4 γ Ο;rw[gf hb b7,gf hb b7,←te,stepG_value (a:=⟨t,b.defers⟩) Β (jx γ hw) υ (by rw[k'];exact(ξ w).1)];unfold listed;rw[k',(ξ w).2,seen_none]
theorem Ψ.part (Ζ:bN P T) (b7:b.roundOf=none) (υ:b.kind≠.early) (is ni:List Nat) {l:List Nat} (ω:l=is++ni) (h:∀J:Χ→Prop,(∀env,Ψ dg b cs nt (.inRegion ops ni::k) env→J env)→l8 T nt ops is env J):Ψ dg b cs nt (.inRegion ops l::k) env:=by
 subst ω;have key:∀(is:List Nat) (env:Χ),l8 T nt ops is env (fun env=>Ψ dg b cs nt (.inRegion ops ni::k) env)→Ψ dg b cs nt (.inRegion ops (is++ni)::k) env:=by
  intro is
  induction is with
  | nil=>intro env h;exact h
  | cons i is Γ=>
   intro env h;unfold l8 gz at h;split at h
   ·exact h.elim
   rename_i o Β;obtain⟨hd,h⟩:=h;split at h
   ·exact h.elim
   rename_i w hw;cases w with
   | false=>exact .unwanted fW hb Β hw hd (Γ _ (h.1 rfl))
   | true=>
    obtain⟨v,R,γ⟩:=h.2 rfl;exact .opn fW hb Ζ b7 υ Β hw hd R (Γ _ γ)
 exact key is env (h _ fun _ h=>h)
theorem Ψ.region (Ζ:bN P T) (b7:b.roundOf=none) (υ:b.kind≠.early) {id:Nat} (h:∀J:Χ→Prop,(∀env,Ψ dg b cs nt k env→J env)→l8 T nt ops (idx ops.size []) env J):Ψ dg b cs nt (.code (.region id ops false)::k) env:=by
 refine .ca fW hb (.part fW hb Ζ b7 υ (idx ops.size []) [] (by simp) fun J I=>h J fun env Υ=>I env (.bB fW hb Υ))
theorem Ψ.Db (bO:l3 b ops i op) (hw:fp env ops op=some true) (hd:hB nt op=true) {f:FuncId} {args:Array Operand} {dL:Array TypeId} (Κ:op.op=.call ⟨.value (.func f),args,dL⟩) {v:Value} (he:Entry P f (fun _=>pure v)) (h:Ψ dg b cs nt (.inRegion ops rest::k) (b5 op env (.z v))):Ψ dg b cs nt (.inRegion ops (i::rest)::k) env:=by
 intro t R γ;obtain⟨s1,s2⟩:=HH (b:=b) fW hb γ hd R (a:=.z v) (v:=v) (.z v);exact fW _ _ ⟨rfl,rfl⟩ (fun w=>C3 he bO (jx γ hw) Κ (vs:=args.map (bk t)) rfl (by simp) (by simp) (by simp)) (h _ s1 s2)
theorem Ψ.Hi (bO:l3 b ops i op) (hw:fp env ops op=some true) (qn:op.dst=none) {f:FuncId} {dL:Array TypeId} (Κ:op.op=.defer ⟨.value (.func f),#[],dL⟩)
  (h:Ψ dg {b with defers:=Go.Conc.dcall f #[]::b.defers} cs nt (.inRegion ops rest::k) env):Ψ dg b cs nt (.inRegion ops (i::rest)::k) env:=by
 intro t R γ;refine fW _ (Go.Conc.G (ao {b with defers:=Go.Conc.dcall f #[]::b.defers} t (.inRegion ops rest::k)) cs) ⟨rfl,rfl⟩ (fun w=>?_) (h t R γ);rw[gf bO.run bO.ro,stepG_defer (a:=⟨t,b.defers⟩) bO.op (jx γ hw) bO.kd Κ];have:(⟨t,Go.Conc.dcall f #[]::b.defers⟩:_root_.Go.Act).put op.dst undef=⟨t,Go.Conc.dcall f #[]::b.defers⟩:=by rw[qn];rfl
 simp only[Array.map_empty,List.map_toArray,List.map_nil];rw[this,gf (b:={b with defers:=Go.Conc.dcall f #[]::b.defers}) bO.run bO.ro];rfl
theorem Ψ.call (bO:l3 b ops i op) (hw:fp env ops op=some true) {args:Array Operand} {dL:Array TypeId} {g:FuncId} (Κ:op.op=.call ⟨.value (.func g),args,dL⟩) {vs:List Value} (px:zv env args vs) {fn:Func} {body:Code} (b':P.funcs[g]?=some fn) (uy:(fn.name == "runtime.NumGoroutine")=false) (mC:fn.body=some body) (Η:vs.length≤fn.ntmps)
  (h:∀t:Array Value,t.size=nt→c7 eX [] [] env t→Ψ dg (Frame.enter P g vs.toArray .normal) (ao b t (.inRegion ops (i::rest)::k)::cs) fn.ntmps [.code body] (entry 0 (vs.map θ.z))):Ψ dg b cs nt (.inRegion ops (i::rest)::k) env:=by
 intro t R γ;have aS:=h t R γ (vs.toArray++Array.replicate (fn.ntmps-vs.length) undef) (by simp;omega) (Xt vs Η);rw[show vs.toArray++Array.replicate (fn.ntmps-vs.length) undef=vs.toArray++Array.replicate (fn.ntmps-vs.toArray.size) undef by simp,←pj b' mC] at aS;refine fW _ _ ⟨rfl,rfl⟩ (fun w=>?_) aS;have kj:(fn.name == "runtime.NumGoroutine")=false:=uy;have Ci:fn.body.isNone=false:=by rw[mC];rfl
 have κ:(execOp (bk t) op).run P w=.ok (.enter g vs.toArray) w∧(execOp (bk t) op).events P w #[]=#[]:=by
  have e:execOp (bk t) op=callFunc g vs.toArray:=by
   unfold execOp;rw[Κ];have:args.map (bk t)=vs.toArray:=px.bk γ;simp only[resolve];rw[this];simp[Deferred.ofValue,Go.TL.bk,invoke]
  rw[e];unfold callFunc;have R:¬fn.name = "runtime.NumGoroutine" := by simpa using kj
  simp[b',R,mC]
 rw[gf bO.run bO.ro,stepG_enter (a:=⟨t,b.defers⟩) bO.op (jx γ hw) bO.kd (by rw[k'];exact κ.1)];unfold listed;rw[k',κ.2,seen_none]
theorem Ψ.rX (b7:b.roundOf=none) (et:b.defers=[]) (gu:b.kind=.normal) {fn:Func} (b':P.funcs[b.fn]?=some fn) {d:Nat} (eL:fn.results=#[.tmp d]) {v:Value} (hv:a5 env d=.z v) {c:Frame}
  (h:dg (Go.Conc.G (c.finish v) cs)):Ψ dg b (c::cs) nt (.code .ret::k) env:=by
 intro t R γ;have kP:t.getD d undef=v:=by
  have:=γ d;rw[hv] at this;generalize t.getD d undef=u at this;cases this;rfl
 refine fW _ (Go.Conc.G {ao b t (.code .ret::k) with mode:=.returning} (c::cs)) ⟨rfl,rfl⟩ (fun w=>?_) (fW _ _ ⟨rfl,rfl⟩ (fun w=>?_) h)
 ·rw[iB hb];unfold stepG.exec;simp only[ao,b7];rfl
 ·rw[gf hb b7,stepG_leave (a:=⟨t,b.defers⟩) gu et b' (results_tmp eL _ P w) (events_results_tmp eL _ _),kP]
theorem Ψ.Da (b7:b.roundOf=none) (et:b.defers=[]) (gu:b.kind=.normal) {fn:Func} (b':P.funcs[b.fn]?=some fn) (eL:fn.results=#[]) {c:Frame}
  (h:dg (Go.Conc.G (c.finish (.tuple #[])) cs)):Ψ dg b (c::cs) nt [] env:=by
 intro t R γ;refine fW _ (Go.Conc.G {ao b t [] with mode:=.returning} (c::cs)) ⟨rfl,rfl⟩ (fun w=>?_) (fW _ _ ⟨rfl,rfl⟩ (fun w=>?_) h)
 ·rw[iB hb];unfold stepG.exec;simp only[ao,b7];rfl
 ·rw[gf hb b7,stepG_leave (a:=⟨t,b.defers⟩) gu et b' (Go.results_none eL _ P w) (Go.Conc.events_results_none eL _ _)]
end
attribute [congr] Xw
attribute [simp] vd Xu Xv xf
end Go.TL
