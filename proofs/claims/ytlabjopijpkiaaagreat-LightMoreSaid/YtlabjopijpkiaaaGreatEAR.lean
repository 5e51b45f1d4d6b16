import Derived.Conc.Own2
import Derived.Test.YtlabjopijpkiaaaGreatEAN
import Derived.Test.YtlabjopijpkiaaaGreatEAO
import Derived.Test.YtlabjopijpkiaaaGreatEAQ
set_option maxHeartbeats 16000000
set_option maxRecDepth 20000
set_option linter.unusedSectionVars false
set_option linter.unusedSimpArgs false
set_option linter.unusedVariables false
namespace Go.TL
open Go.Conc Go.Proofs
open Go.ConcN (sumTo upd sumTo_upd upd_ne upd_same sumTo_congr le_sumTo)
noncomputable def FN:Code:=Tryz.f140.body.getD .skip
noncomputable abbrev JQ (s:Nat):Frame:={Frame.enter Tryz.prog 140 #[ptr s 0,.int .i64 (-1)] .normal with defers:=[Go.Conc.dcall 161 #[]]}
theorem bα:IntKind.u64.wrap (IntKind.u64.wrap (-1)*2 ^ min 32 IntKind.u64.bits)=18446744069414584320:=br
theorem bβ:IntKind.u64.wrap (18446744073709551615*2 ^ min 32 IntKind.u64.bits)=18446744069414584320:=br
theorem bγ:IntKind.u64.wrap (-1)=18446744073709551615:=br
theorem FO:IntKind.i32.wrap (-1)=-1:=br
section
variable {Q:Value->Prop} {c:Frame} {rest:List Frame} {s k:Nat} {sp:Spec} {v:Option (Nat×aW)}
theorem bδ [bq] (Ν:me Tryz.prog 0 (Go.Conc.G (c.finish (.tuple #[])) rest)) {cc w0:Nat} (U:cc<8) (γ:w0<2) (ο:0<cc\/w0=0) {env:ab} (cu:a' env 0=.z (ptr s 0)) (Ζ:a' env 1=.z (.int .i64 (-1))) (cR:a' env 4=.z (.bool false)) (mw:a' env 6=.z (.int .u64 (iW cc w0))) :
  aj (me Tryz.prog 1) (JQ s) (c::rest) 117 [.code (eh [1,1,1,1] FN)] env:=by
 have fin:∀(K:List Item) (env:ab),aj (me Tryz.prog 1) (JQ s) (c::rest) 117 (.code .ret::K) env:=λK env=>aj.JI rfl rfl rfl rfl Tryz.func140 rfl vx Ν
 have P2:¬(cc:Int)<0:=Int.not_lt.2 (Int.natCast_nonneg _)
 have hw:w0=0\/w0=1:=J
 have f1:=FH cc U w0 γ
 have f2:=FI cc U w0 γ
 have f3:=FJ cc U w0 γ;generalize iW cc w0=w at f1 f2 f3 mw;unfold FN;by_cases ω:0<cc
 ·have iP:(0:Int)<cc:=by exact_mod_cast ω
  rcases hw with rfl|rfl
  ·(repeat (first|refine aj.seq ev rfl ?_|refine aj.block ev rfl ?_|refine aj.inBlock ev rfl ?_|refine aj.skip ev rfl ?_|refine aj.nV ev rfl rfl ?_|refine aj.nW ev rfl rfl ?_|(refine aj.region ev rfl Φ rfl (by simp[Frame.enter]) λΚ κ=>?_;(try simp);(repeat (refine hM ?_;simp[cu,Ζ,cR,mw,f1,f2,f3,FO,P2,ω,iP]));refine κ _ ?_)));exact fin _ _
  ·(repeat (first|refine aj.seq ev rfl ?_|refine aj.block ev rfl ?_|refine aj.inBlock ev rfl ?_|refine aj.skip ev rfl ?_|refine aj.nV ev rfl rfl ?_|refine aj.nW ev rfl rfl ?_|(refine aj.region ev rfl Φ rfl (by simp[Frame.enter]) λΚ κ=>?_;(try simp);(repeat (refine hM ?_;simp[cu,Ζ,cR,mw,f1,f2,f3,FO,P2,ω,iP]));refine κ _ ?_)));exact fin _ _
 ·have ao:w0=0:=ο.resolve_left ω
  have iS:cc=0:=Nat.eq_zero_of_not_pos ω;subst ao;subst iS;(repeat (first|refine aj.seq ev rfl ?_|refine aj.block ev rfl ?_|refine aj.inBlock ev rfl ?_|refine aj.skip ev rfl ?_|refine aj.nV ev rfl rfl ?_|refine aj.nW ev rfl rfl ?_|(refine aj.region ev rfl Φ rfl (by simp[Frame.enter]) λΚ κ=>?_;(try simp);(repeat (refine hM ?_;simp[cu,Ζ,cR,mw,f1,f2,f3,FO]));refine κ _ ?_)));exact fin _ _
structure ru (x:a7) (s:Nat) (sp:Spec):Prop where
 rel:x.rel=true
 spec:x.spec s=some sp
 top:sp.top<7
 shut:∀bs,bs≠s->gB (x.tok bs)
theorem ru.here {x:a7} (h:ru x s sp) {g:uC} {d:Nat} (Ω:g≠.gone):fh (bB x s (.ch k .done g) v d):=.inr ⟨s,by rw[cm];cases g<;>simp_all [Gone]⟩
theorem ru.gone {x:a7} (h:ru x s sp) {d:Nat}:∀bs,Gone ((bB x s (.ch k .done .gone) v d).tok bs):=λbs=>by
 by_cases e:bs=s
 ·subst e;rw[cm];trivial
 ·rw[BD e];have:=h.shut bs e;revert this;cases x.tok bs with
  | nil=>exact λ_=>trivial
  | par n p aQ=>cases aQ<;>exact λh=>h
  | ch k m g=>exact λh=>h.elim
theorem ru.FK {x:a7} (ε:ru x s sp) {υ:aW} (h:υ.toSpec=sp):υ.top<7:=by have:=ε.top;rw[show υ.top=sp.top by rw[<-h]];exact this
theorem aj.back [bq] {dL:Goroutine->Prop} {b:Frame} {cs:List Frame} {nt:Nat} {k:List Item} {env:ab} {ops:Array Oper} {i:Nat} {rest:List Nat} {op:Oper} {t:Array Value} {v:Value} (Β:ops[i]?=some op) (hd:hD nt op=true) (Υ:t.size=nt) (ξ:dB fE [] [] env t)
  (h:aj dL b cs nt (.inRegion ops rest::k) (b7 op env (.z v))):dL (Go.Conc.G ((aD b t (.inRegion ops (i::rest)::k)).finish v) cs):=by
 rw[jl Β];obtain⟨s2,s1⟩:=sh ξ hd Υ (a:=.z v) (v:=v) (.z _);exact h _ s1 s2
theorem aj.P3 [bq] {P:Program} {b:Frame} {cs:List Frame} {nt:Nat} {env:ab} (hb:b.mode=.run) (cv:b.roundOf=none) (e6:b.defers=[]) (ht:b.kind=.deferred) {fn:Func} (bR:P.funcs[b.fn]?=some fn) (fs:fn.results=#[]) {c:Frame} (pt:c.mode=.returning)
  (h:me P 0 (Go.Conc.G c cs)):aj (me P 0) b (c::cs) nt [] env:=λt _ _=>by
 obtain⟨n,Θ⟩:=h;refine ev _ (Go.Conc.G {aD b t [] with mode:=.returning} (c::cs)) ⟨rfl,rfl⟩ (λw=>?_) ⟨n+1,?_⟩
 ·rw[jY hb];unfold stepG.exec;simp only[aD,cv];rfl
 ·rw[hj hb cv];exact QuitsD.leaveD (a:=⟨t,b.defers⟩) ht e6 bR fs pt Θ
theorem bε [bq] {x:a7} (ε:ru x s sp) {t:Tok} (a5:∀v,fh (bB x s t v 1)) (c0:¬gB t) {cs:List Frame} (dJ:∀φ υ,Seen (bB x s t v 1) s sp φ υ->lp Tryz.prog Q false (bB x s t (some (φ,υ)) 1) (Go.Conc.G (c.finish (.int .u64 (c7 υ))) cs)) :
  aj (lp Tryz.prog Q false (bB x s t v 1)) (Frame.enter Tryz.prog 168 #[ptr s 0] .normal) (c::cs) 7 [.code (Tryz.f168.body.getD .skip)] (entry 0 [.z (ptr s 0)]):=by
 simp only[Tryz.f168,Option.getD_some];(repeat (first|refine aj.seq (bA (a5 _)) rfl ?_|refine aj.block (bA (a5 _)) rfl ?_|refine aj.inBlock (bA (a5 _)) rfl ?_|refine aj.skip (bA (a5 _)) rfl ?_|refine aj.nV (bA (a5 _)) rfl rfl ?_|refine aj.nW (bA (a5 _)) rfl rfl ?_|(refine aj.region (bA (a5 _)) rfl Φ rfl (by simp[Frame.enter]) λΚ κ=>?_;(try simp);(repeat (refine hM ?_;simp[c0]));refine κ _ ?_)));refine aj.cC (bA (a5 _)) rfl ?_;refine aj.part (bA (a5 _)) rfl Φ rfl (by simp[Frame.enter]) [0,1,2] [3,4] rfl λΚ κ=>?_;(try simp[-xA]);(repeat (refine hM ?_;simp));refine κ _ ?_;refine aj.Jm (a5 _) (Nat.succ_pos _) (sp:=sp) ε.spec (by rw[cm];exact c0) ⟨⟨rfl,rfl,by simp[Frame.enter],rfl⟩,Py,⟨_,rfl⟩,rfl,rfl,rfl⟩ λφ υ ξ=>?_;unfold JP;rw[ln];refine aj.part (bA (a5 _)) rfl Φ rfl (by simp[Frame.enter]) [4] [] rfl λΚ κ=>?_;(try simp[-xA]);(repeat (refine hM ?_;simp));refine κ _ ?_;refine aj.bL (bA (a5 _)) rfl ?_;exact aj.tR (bA (a5 _)) rfl rfl rfl rfl Tryz.func168 rfl rfl (dJ φ υ ξ)
theorem bζ [bq] {x:a7} (ε:ru x s sp) {t t':Tok} {d:Int} (a5:∀v,fh (bB x s t v 1)) (P4:∀v,fh (bB x s t' v 1)) (c0:¬gB t) {cs:List Frame} (dJ:∀φ υ,Seen (bB x s t v 1) s sp φ υ->∃o',c7 o'=d/\o'.cU=υ.cU/\sD υ o'/\Act υ t o' t'/\∀cE,cE<φ->lp Tryz.prog Q false (bB x s t' (some (cE,o')) 1) (Go.Conc.G (c.finish (.tuple #[])) cs)) :
  aj (lp Tryz.prog Q false (bB x s t v 1)) (Frame.enter Tryz.prog 169 #[ptr s 0,.int .u64 d] .normal) (c::cs) 9 [.code (Tryz.f169.body.getD .skip)] (entry 0 [.z (ptr s 0),.z (.int .u64 d)]):=by
 simp only[Tryz.f169,Option.getD_some];(repeat (first|refine aj.seq (bA (a5 _)) rfl ?_|refine aj.block (bA (a5 _)) rfl ?_|refine aj.inBlock (bA (a5 _)) rfl ?_|refine aj.skip (bA (a5 _)) rfl ?_|refine aj.nV (bA (a5 _)) rfl rfl ?_|refine aj.nW (bA (a5 _)) rfl rfl ?_|(refine aj.region (bA (a5 _)) rfl Φ rfl (by simp[Frame.enter]) λΚ κ=>?_;(try simp);(repeat (refine hM ?_;simp[c0]));refine κ _ ?_)));refine aj.cC (bA (a5 _)) rfl ?_;refine aj.part (bA (a5 _)) rfl Φ rfl (by simp[Frame.enter]) [0,1,2,3] [4] rfl λΚ κ=>?_;(try simp[-xA]);(repeat (refine hM ?_;simp));refine κ _ ?_;refine aj.aΧ (a5 _) (Nat.succ_pos _) (sp:=sp) ε.spec (by rw[cm];exact c0) ⟨⟨rfl,rfl,by simp[Frame.enter],rfl⟩,Z4,⟨_,rfl⟩,rfl,rfl,rfl⟩ λφ υ ξ=>?_;obtain⟨o',a1,bb,cP,gJ,ix⟩:=dJ φ υ ξ;refine⟨o',t',a1,bb,cP,by rw[cm];exact gJ,λcE eS=>?_⟩;rw[hJ];refine aj.bL (bA (P4 _)) rfl ?_;exact aj.Fv (bA (P4 _)) rfl rfl rfl rfl Tryz.func169 rfl (ix cE eS)
theorem bη [bq] {x:a7} (ε:ru x s sp) {t:Tok} {d:Int} (a5:∀v,fh (bB x s t v 1)) (c0:¬gB t) {cs:List Frame}
  (dJ:∀φ υ,Seen (bB x s t v 1) s sp φ υ->∃o' t',c7 o'=IntKind.u64.wrap (c7 υ+d)/\o'.cU=υ.cU/\sD υ o'/\Act υ t o' t'/\∀cE,cE<φ->(((∀v,fh (bB x s t' v 1))/\lp Tryz.prog Q false (bB x s t' (some (cE,o')) 1) (Go.Conc.G (c.finish (.int .u64 (c7 o'))) cs))\/((∀bs,Gone ((bB x s t' (some (cE,o')) 1).tok bs))/\me Tryz.prog 1 (Go.Conc.G (c.finish (.int .u64 (c7 o'))) cs)))) :
  aj (lp Tryz.prog Q false (bB x s t v 1)) (Frame.enter Tryz.prog 166 #[ptr s 0,.int .u64 d] .normal) (c::cs) 10 [.code (Tryz.f166.body.getD .skip)] (entry 0 [.z (ptr s 0),.z (.int .u64 d)]):=by
 simp only[Tryz.f166,Option.getD_some];(repeat (first|refine aj.seq (bA (a5 _)) rfl ?_|refine aj.block (bA (a5 _)) rfl ?_|refine aj.inBlock (bA (a5 _)) rfl ?_|refine aj.skip (bA (a5 _)) rfl ?_|refine aj.nV (bA (a5 _)) rfl rfl ?_|refine aj.nW (bA (a5 _)) rfl rfl ?_|(refine aj.region (bA (a5 _)) rfl Φ rfl (by simp[Frame.enter]) λΚ κ=>?_;(try simp);(repeat (refine hM ?_;simp[c0]));refine κ _ ?_)));refine aj.cC (bA (a5 _)) rfl ?_;refine aj.part (bA (a5 _)) rfl Φ rfl (by simp[Frame.enter]) [0,1,2,3] [4,5] rfl λΚ κ=>?_;(try simp[-xA]);(repeat (refine hM ?_;simp));refine κ _ ?_;refine aj.Jn (a5 _) (Nat.succ_pos _) (sp:=sp) ε.spec (by rw[cm];exact c0) ⟨⟨rfl,rfl,by simp[Frame.enter],rfl⟩,Px,⟨_,rfl⟩,rfl,rfl,rfl⟩ λφ υ ξ=>?_;obtain⟨o',t',a1,bb,cP,gJ,ix⟩:=dJ φ υ ξ;refine⟨o',t',a1,bb,cP,by rw[cm];exact gJ,λcE eS=>?_⟩;rw[hJ];rcases ix cE eS with⟨bE,c6⟩|⟨bE,c6⟩
 ·refine aj.part (bA (bE _)) rfl Φ rfl (by simp[Frame.enter]) [5] [] rfl λΚ κ=>?_;(try simp[-xA]);(repeat (refine hM ?_;simp));refine κ _ ?_;refine aj.bL (bA (bE _)) rfl ?_;exact aj.tR (bA (bE _)) rfl rfl rfl rfl Tryz.func166 rfl rfl c6
 ·refine aj.leaves (d:=1) ε.rel bE rfl ?_;refine aj.part ev rfl Φ rfl (by simp[Frame.enter]) [5] [] rfl λΚ κ=>?_;(try simp[-xA]);(repeat (refine hM ?_;simp));refine κ _ ?_;refine aj.bL ev rfl ?_;exact aj.tR ev rfl rfl rfl rfl Tryz.func166 rfl rfl c6
theorem bθ [bq] {x:a7} (ε:ru x s sp) (Ν:me Tryz.prog 0 (Go.Conc.G (c.finish (.tuple #[])) rest)) {env:ab} (cu:a' env 0=.z (ptr s 0)) (Ζ:a' env 1=.z (.int .i64 (-1))) (cR:a' env 4=.z (.bool false)) (mw:a' env 6=.z (.int .u64 (iW 0 1))) :
  aj (lp Tryz.prog Q false (bB x s (.ch k .done .l2) v 1)) (JQ s) (c::rest) 117 [.code (eh [1,1,1,1] FN)] env:=by
 have f1:=FH 0 br 1 br
 have f2:=FI 0 br 1 br
 have f3:=FJ 0 br 1 br
 have h0:iW 0 1=1:=br;generalize hw:iW 0 1=w at f1 f2 f3 mw;have γ:=ε.here (k:=k) (v:=v) (d:=1) (g:=.l2) η;unfold FN;(repeat (first|refine aj.seq (bA γ) rfl ?_|refine aj.block (bA γ) rfl ?_|refine aj.inBlock (bA γ) rfl ?_|refine aj.skip (bA γ) rfl ?_|refine aj.nV (bA γ) rfl rfl ?_|refine aj.nW (bA γ) rfl rfl ?_|(refine aj.region (bA γ) rfl Φ rfl (by simp[Frame.enter]) λΚ κ=>?_;(try simp);(repeat (refine hM ?_;simp[cu,Ζ,cR,mw,f1,f2,f3,FO]));refine κ _ ?_)));refine aj.cC (bA γ) rfl ?_;refine aj.part (bA γ) rfl Φ rfl (by simp[Frame.enter]) [0,1,2] [3,4,5] rfl λΚ κ=>?_;(repeat (refine hM ?_;simp[cu]));refine κ _ ?_;refine aj.call (bA γ) rfl ⟨rfl,rfl,by simp[Frame.enter],rfl⟩ rfl rfl (vs:=[ptr s 0]) rfl Tryz.func168 rfl rfl (by simp[Tryz.ntmps168]) λt Υ ξ=>?_;have h4:∀v,fh (bB x s (.ch k .done .l2) v 1):=λv=>ε.here η;have kP:∀v,fh (bB x s (.ch k .done .iw) v 1):=λv=>ε.here η;refine bε ε h4 id λφ υ sG=>?_;have ψ:=sG.j7.tU;rw[cm] at ψ;obtain⟨aa,ai⟩:=ψ.l2 k _ rfl;have rW:c7 υ=w:=by rw[<-hw];simp only[c7,aa,ai]
 rw[rW];refine aj.back rfl rfl Υ ξ ?_;refine aj.part (bA (h4 _)) rfl Φ rfl (by simp[Frame.enter]) [4,5] [] rfl λΚ κ=>?_;(repeat (refine hM ?_;simp[mw]));refine κ _ ?_;refine aj.bL (bA (h4 _)) rfl ?_;(repeat (first|refine aj.seq (bA (h4 _)) rfl ?_|refine aj.block (bA (h4 _)) rfl ?_|refine aj.inBlock (bA (h4 _)) rfl ?_|refine aj.skip (bA (h4 _)) rfl ?_|refine aj.nV (bA (h4 _)) rfl rfl ?_|refine aj.nW (bA (h4 _)) rfl rfl ?_|(refine aj.region (bA (h4 _)) rfl Φ rfl (by simp[Frame.enter]) λΚ κ=>?_;(try simp);(repeat (refine hM ?_;simp[cu]));refine κ _ ?_)));refine aj.cC (bA (h4 _)) rfl ?_;refine aj.part (bA (h4 _)) rfl Φ rfl (by simp[Frame.enter]) [0,1,2] [3] rfl λΚ κ=>?_;(repeat (refine hM ?_;simp[cu]));refine κ _ ?_;refine aj.call (bA (h4 _)) rfl ⟨rfl,rfl,by simp[Frame.enter],rfl⟩ rfl rfl (vs:=[ptr s 0,.int .u64 0]) rfl Tryz.func169 rfl rfl (by simp[Tryz.ntmps169]) λt3 bι sF=>?_;refine bζ ε (t':=.ch k .done .iw) h4 kP id λBO bκ bμ=>?_;have xv:=bμ.j7.tU;rw[cm] at xv;obtain⟨aZ,cn⟩:=xv.l2 k _ rfl;refine⟨{bκ with wt:=0},by simp only[c7,cn];rfl,rfl,⟨rfl,rfl,rfl⟩,.Tu,λmθ mι=>?_⟩;refine aj.back rfl rfl bι sF ?_;refine aj.bL (bA (kP _)) rfl ?_;(repeat (first|refine aj.seq (bA (kP _)) rfl ?_|refine aj.block (bA (kP _)) rfl ?_|refine aj.inBlock (bA (kP _)) rfl ?_|refine aj.skip (bA (kP _)) rfl ?_|refine aj.nV (bA (kP _)) rfl rfl ?_|refine aj.nW (bA (kP _)) rfl rfl ?_|(refine aj.region (bA (kP _)) rfl Φ rfl (by simp[Frame.enter]) λΚ κ=>?_;(try simp);(repeat (refine hM ?_;simp[cu,cR]));refine κ _ ?_)));refine aj.loop (bA (kP _)) rfl ?_;(repeat (first|refine aj.seq (bA (kP _)) rfl ?_|refine aj.block (bA (kP _)) rfl ?_|refine aj.inBlock (bA (kP _)) rfl ?_|refine aj.skip (bA (kP _)) rfl ?_|refine aj.nV (bA (kP _)) rfl rfl ?_|refine aj.nW (bA (kP _)) rfl rfl ?_|(refine aj.region (bA (kP _)) rfl Φ rfl (by simp[Frame.enter]) λΚ κ=>?_;(try simp);(repeat (refine hM ?_;simp[cu,cR]));refine κ _ ?_)));refine aj.cC (bA (kP _)) rfl ?_;refine aj.part (bA (kP _)) rfl Φ rfl (by simp[Frame.enter]) [0,1,2] [3] rfl λΚ κ=>?_;(repeat (refine hM ?_;simp[cu]));refine κ _ ?_;refine aj.aΨ (kP _) (sp:=sp) ε.spec (by rw[cm];exact id) (vs:=[ptr s 1,.bool false,.int .i64 0]) rfl ⟨⟨rfl,rfl,by simp[Frame.enter],rfl⟩,Z9,⟨_,rfl⟩,rfl,rfl,rfl⟩ λmκ P5 bν=>?_;have P6:=bν.j7.tU;rw[cm] at P6;refine⟨by have:=P6.cU;omega,{P5 with cU:=P5.cU+1},.ch k .done .gone,rfl,rfl,⟨rfl,rfl,rfl⟩,by rw[cm];exact .Tv,λmμ mν=>?_⟩;rw[hJ];refine aj.leaves (d:=1) ε.rel ε.gone rfl ?_;refine aj.bL ev rfl ?_;(repeat (first|refine aj.seq ev rfl ?_|refine aj.block ev rfl ?_|refine aj.inBlock ev rfl ?_|refine aj.skip ev rfl ?_|refine aj.nV ev rfl rfl ?_|refine aj.nW ev rfl rfl ?_|(refine aj.region ev rfl Φ rfl (by simp[Frame.enter]) λΚ κ=>?_;(try simp);(repeat (refine hM ?_;simp[cu,FL]));refine κ _ ?_)));refine aj.inLoop ev rfl ?_;(repeat (first|refine aj.seq ev rfl ?_|refine aj.block ev rfl ?_|refine aj.inBlock ev rfl ?_|refine aj.skip ev rfl ?_|refine aj.nV ev rfl rfl ?_|refine aj.nW ev rfl rfl ?_|(refine aj.region ev rfl Φ rfl (by simp[Frame.enter]) λΚ κ=>?_;(try simp);(repeat (refine hM ?_;simp[cu,FL]));refine κ _ ?_)));refine aj.exit ev rfl rfl ?_;exact aj.aΩ rfl rfl rfl rfl Tryz.func140 rfl vx Ν
structure P7 (x:a7) (s:Nat) (sp:Spec):Prop where
 rel:x.rel=false
 aR:x.aR=λ_=>none
 spec:x.spec s=some sp
 top:sp.top<7
 shut:∀bs,bs≠s->gB (x.tok bs)
theorem bξ {x:a7} {H:Γ} (ε:P7 x s sp) (eH:sp.D k Γ.empty) (pt:c.mode=.returning) (Ν:me Tryz.prog 0 (Go.Conc.G c rest)) :
  cG Tryz.prog Q false (bB x s (.ch k .done .work) v 0) (Frame.enter Tryz.prog 142 #[ptr s 0] .deferred) (c::rest) H:=by
 letI:bq:=fi;have δ:∀t v d,Seq (one (bB x s t v d)):=λt v d=>Seq.vv trivial ε.rel ε.aR;have Ω:ru (zh x) s sp:=⟨rfl,ε.spec,ε.top,ε.shut⟩;have μ:∀v d,fh (bB (zh x) s (.ch k .done .rel) v d):=λv d=>Ω.here η;have π:∀v d,fh (bB (zh x) s (.ch k .done .l2) v d):=λv d=>Ω.here η;rw[q5 (body:=Tryz.f142.body.getD .skip) Tryz.func142 rfl];refine V.here (x:=one _) (m:=0) (nt:=4) (S:=fE) (B:=[]) (σ:=[]) (env:=entry 0 [.z (ptr s 0)]) ?_ (gd.enter (zc H) ⟨rfl,λi a v U γ=>?_⟩ (Nat.le_refl _) η) _ rfl
 ·refine V.gj (δ _ _ _) rfl ?_;simp only[Tryz.f142,Option.getD_some];refine da ?_;refine W.cC ?_;refine fM [0] [1] ?_;refine W.stop ?_;refine V.call (δ _ _ _) ⟨rfl,rfl,by simp[Frame.enter],rfl⟩ rfl rfl rfl ⟨_,Tryz.func140,rfl,rfl⟩ λbS b1 H1 t1 p8 ν ω hv=>?_;obtain rfl:=nQ (l:=[ptr s 0,.int .i64 (-1)]) hv;obtain rfl:b1=[]:=dO.1 ω.holds.len;rintro y rfl;refine V.rk (z:=one _) (vs:=[ptr s 0,.int .i64 (-1)]) Tryz.func140 rfl ω.holds (by simp[Tryz.ntmps140]) ?_ _ rfl;refine V.gj (δ _ _ _) rfl ?_;refine ih ?_;refine W.cC ?_;refine fM [0] [1,2] ?_;refine W.stop ?_;refine V.conv (δ _ _ _).here (sp:=sp) ε.spec (by rw[cm];exact id) ⟨rfl,rfl,by simp[Frame.enter],rfl⟩ rfl rfl rfl Jy vy Jz rfl (λυ w Β bJ=>⟨_,bJ.cN⟩) (λφ υ ξ=>?_);unfold jb;rw[ln];refine V.Hq ε.rel (sp:=sp) ε.spec (.inl rfl) ε.shut eH ⟨⟨rfl,rfl,by simp[Frame.enter],rfl⟩,Pu,⟨_,rfl⟩,rfl,rfl,rfl⟩ η ?_;refine aj.bL (bA (μ _ _)) rfl ?_;(repeat (first|refine aj.seq (bA (μ _ _)) rfl ?_|refine aj.block (bA (μ _ _)) rfl ?_|refine aj.inBlock (bA (μ _ _)) rfl ?_|refine aj.skip (bA (μ _ _)) rfl ?_|refine aj.nV (bA (μ _ _)) rfl rfl ?_|refine aj.nW (bA (μ _ _)) rfl rfl ?_|(refine aj.region (bA (μ _ _)) rfl Φ rfl (by simp[Frame.enter]) λΚ κ=>?_;(try simp);(repeat (refine hM ?_;simp[pt]));refine κ _ ?_)));refine aj.cC (bA (μ _ _)) rfl ?_;refine aj.disable (μ _ _) ⟨⟨rfl,rfl,by simp[Frame.enter],rfl⟩,BF,⟨_,rfl⟩,rfl,rfl,rfl⟩ ?_;rw[BB];refine aj.bL (bA (μ _ _)) rfl ?_;refine aj.cC (bA (μ _ _)) rfl ?_;refine aj.Jp (bA (μ _ _)) rfl ⟨rfl,rfl,by simp[Frame.enter],rfl⟩ rfl rfl rfl ?_;refine aj.bL (bA (μ _ _)) rfl ?_;(repeat (first|refine aj.seq (bA (μ _ _)) rfl ?_|refine aj.block (bA (μ _ _)) rfl ?_|refine aj.inBlock (bA (μ _ _)) rfl ?_|refine aj.skip (bA (μ _ _)) rfl ?_|refine aj.nV (bA (μ _ _)) rfl rfl ?_|refine aj.nW (bA (μ _ _)) rfl rfl ?_|(refine aj.region (bA (μ _ _)) rfl Φ rfl (by simp[Frame.enter]) λΚ κ=>?_;(try simp);(repeat (refine hM ?_;simp[pt]));refine κ _ ?_)));refine aj.cC (bA (μ _ _)) rfl ?_;refine aj.Fw (bA (μ _ _)) rfl ⟨rfl,rfl,by simp[Frame.enter],rfl⟩ rfl rfl rfl Pv ?_;refine aj.bL (bA (μ _ _)) rfl ?_;(repeat (first|refine aj.seq (bA (μ _ _)) rfl ?_|refine aj.block (bA (μ _ _)) rfl ?_|refine aj.inBlock (bA (μ _ _)) rfl ?_|refine aj.skip (bA (μ _ _)) rfl ?_|refine aj.nV (bA (μ _ _)) rfl rfl ?_|refine aj.nW (bA (μ _ _)) rfl rfl ?_|(refine aj.region (bA (μ _ _)) rfl Φ rfl (by simp[Frame.enter]) λΚ κ=>?_;(try simp);(repeat (refine hM ?_;simp[pt]));refine κ _ ?_)));refine aj.cC (bA (μ _ _)) rfl ?_;refine aj.part (bA (μ _ _)) rfl Φ rfl (by simp[Frame.enter]) [0,1,2,3,4,5] [6,7] rfl λΚ κ=>?_;(repeat (refine hM ?_;simp[bγ,bα,bβ]));refine κ _ ?_;refine aj.call (bA (μ _ _)) rfl ⟨rfl,rfl,by simp[Frame.enter],rfl⟩ rfl rfl (vs:=[ptr s 0,.int .u64 18446744069414584320]) rfl Tryz.func166 rfl rfl (by simp[Tryz.ntmps166]) λt2 xC de=>?_;refine bη Ω (λv=>μ v 1) id λφ υ sF=>?_;have ψ:=sF.j7.tU;rw[cm] at ψ;have fr:1<=υ.cnt:=ψ.live;have hk:=Ω.FK sF.spec;have xy:=ψ.cnt;have rU:=ψ.wt;obtain⟨cc,lZ⟩:=aF (υ.cnt-1);have BS:υ.cnt<8/\0<υ.cnt/\cc<8/\υ.wt<2:=J;have P8:c7 {υ with cnt:=cc}=IntKind.u64.wrap (c7 υ+18446744069414584320):=by
   rw[vB,vB,aω υ.cnt BS.1 υ.wt BS.2.2.2 BS.2.1,lZ]
  by_cases ku:υ.cnt=1/\υ.wt=1
  ·have iS:cc=0:=J
   refine⟨{υ with cnt:=cc},.ch k .done .l2,P8,rfl,⟨rfl,rfl,rfl⟩,by rw[lZ];exact .Ts ku.1 ku.2,λcE eS=>.inl ⟨λv=>π v 1,?_⟩⟩;have rW:c7 {υ with cnt:=cc}=iW 0 1:=by rw[vB,iS];simp only[ku.2]
   rw[rW];refine aj.back rfl rfl xC de ?_;refine aj.part (bA (π _ _)) rfl Φ rfl (by simp[Frame.enter]) [7] [] rfl λΚ κ=>?_;(repeat (refine hM ?_;simp));refine κ _ ?_;refine aj.bL (bA (π _ _)) rfl ?_;refine bθ Ω ?_ rfl rfl rfl rfl;exact aj.back (nt:=4) rfl rfl ω.size (BM η ω.cH) (aj.bL ev rfl (aj.P3 rfl rfl rfl rfl Tryz.func142 rfl pt Ν))
  ·refine⟨{υ with cnt:=cc},.ch k .done .gone,P8,rfl,⟨rfl,rfl,rfl⟩,by rw[lZ];exact .Tt J,λcE eS=>.inr ⟨Ω.gone,?_⟩⟩;have rW:c7 {υ with cnt:=cc}=iW cc υ.wt:=rfl;rw[rW];refine aj.back rfl rfl xC de ?_;refine aj.part ev rfl Φ rfl (by simp[Frame.enter]) [7] [] rfl λΚ κ=>?_;(repeat (refine hM ?_;simp));refine κ _ ?_;refine aj.bL ev rfl ?_;refine bδ ?_ (cc:=cc) (w0:=υ.wt) BS.2.2.1 BS.2.2.2 J rfl rfl rfl rfl;exact aj.back (nt:=4) rfl rfl ω.size (BM η ω.cH) (aj.bL ev rfl (aj.P3 rfl rfl rfl rfl Tryz.func142 rfl pt Ν))
 ·cases i with
  | zero=>simp at U γ;subst U;subst γ;exact .z _
  | succ i=>simp at U
end
end Go.TL
namespace Go.TL
open Go.Conc
open Go.ConcN (upd)
def sI (S:aO) (H:Γ):Γ:={H with aS:=λb o=>match S b o with|some v=>some (v,false)|none=>H.aS b o}
def nX (S:aO):Γ:=⟨λb o=>(S b o).map (·,false),λ_=>none,λ_=>none⟩
def aO.plus (S T:aO):aO:=λb o=>match S b o with|some v=>some v|none=>T b o
structure oH (β:Nat) (bS:aO) (E:Γ):Prop where
 aS:∀b o x,E.aS b o=some x->bS b o≠none\/β<b
 row:∀b x,E.row b=some x->β<b
 obj:∀b x,E.obj b=some x->β<b
def zi (r:Row):Prop:=∃t k l,r=.cells t k l
section
variable {S aJ iq fJ bS:aO} {B B':a0} {σ σ':ac} {H H' et E G:Γ} {β:Nat}
theorem BT {b o:Nat} {v:Value} (h:S b o=some v):(sI S H).aS b o=some (v,false):=by simp only[sI,h]
theorem JR {b o:Nat} (h:S b o=none):(sI S H).aS b o=H.aS b o:=by simp only[sI,h]
theorem JS {b o:Nat} {v:Value} (h:S b o=some v):(nX S).aS b o=some (v,false):=by simp only[nX,h];rfl
theorem FP {b o:Nat} {x:Value×Bool} (h:(nX S).aS b o=some x):∃v,S b o=some v/\x=(v,false):=by
 cases ξ:S b o with
 | none=>simp[nX,ξ] at h
 | some v=>exact⟨v,rfl,by simp[nX,ξ] at h;exact h.symm⟩
theorem BU {b o:Nat} {v:Value} (h:S b o=some v):S.plus iq b o=some v:=by simp only[aO.plus,h]
theorem FQ {b o:Nat} (h:S b o=none):S.plus iq b o=iq b o:=by simp only[aO.plus,h]
theorem join_some {b o:Nat} {x:Value×Bool} (h:H.aS b o=some x):(join H E).aS b o=some x:=by simp only[join,h]
theorem join_none {b o:Nat} (h:H.aS b o=none):(join H E).aS b o=E.aS b o:=by simp only[join,h]
theorem bο {b:Nat} {x:TypeId×Nat} (h:(join H E).row b=some x):H.row b=some x\/E.row b=some x:=by
 cases μ:H.row b with
 | none=>simp only[join,μ] at h;exact .inr h
 | some y=>simp only[join,μ] at h;exact .inl h
theorem bπ {b:Nat} {x:Obj} (h:(join H E).obj b=some x):H.obj b=some x\/E.obj b=some x:=by
 cases μ:H.obj b with
 | none=>simp only[join,μ] at h;exact .inr h
 | some y=>simp only[join,μ] at h;exact .inl h
theorem bρ (Δ:Holds S [] [] H):Split H (sI S H) (nX S):=by
 refine⟨⟨λb o v p h=>?_,λb x h=>h,λb x h=>h⟩,⟨λb o v p h=>?_,λb x h=>(by cases h),λb x h=>(by cases h)⟩,⟨λb o ⟨v,h⟩ ⟨x,k⟩=>?_,λb o ⟨v,h⟩ _=>?_,λb _ ⟨x,h⟩=>(by cases h)⟩⟩
 ·cases ξ:S b o with
  | some u=>
   rw[BT ξ] at h;cases h;obtain⟨fY,ω⟩:=Δ.dy b o _ ξ;exact⟨fY,ω,λe=>by cases e⟩
  | none=>rw[JR ξ] at h;exact⟨p,h,id⟩
 ·obtain⟨u,ξ,e⟩:=FP h;cases e;obtain⟨fY,ω⟩:=Δ.dy b o _ ξ;exact⟨fY,ω,λe=>by cases e⟩
 ·obtain⟨u,ξ,e⟩:=FP k;rw[BT ξ] at h;cases h
 ·obtain⟨u,ξ,e⟩:=FP h;cases e
theorem bς (Δ:Holds S [] [] H):Holds S [] [] (sI S H):=
 ⟨λb o v h=>⟨false,BT h⟩,rfl,λid r bo h=>by simp at h,λi j eF cp b gO gP _ h=>by simp at h,λid r b N h=>by simp at h⟩
theorem bτ:Holds S [] [] (nX S):=
 ⟨λb o v h=>⟨false,JS h⟩,rfl,λid r bo h=>by simp at h,λi j eF cp b gO gP _ h=>by simp at h,λid r b N h=>by simp at h⟩
theorem bυ (Δ:Holds S [] [] H):Ext S [] H S [] (sI S H):=by
 refine⟨λ_ _ _ h=>h,λb _ _=>⟨λo=>?_,rfl,rfl⟩,λb h=>.inl h,λb o v h=>.inl h,λb h=>?_⟩
 ·cases ξ:S b o with
  | none=>exact .inl (JR ξ)
  | some v=>
   obtain⟨p,ω⟩:=Δ.dy b o v ξ;exact .inr ⟨v,p,rfl,ω,BT ξ⟩
 ·have key:∀b o,(sI S H).aS b o=none->H.aS b o=none:=λb o h=>by
   cases ξ:S b o with
   | none=>rw[JR ξ] at h;exact h
   | some v=>rw[BT ξ] at h;cases h
  exact⟨λo=>key b o (h.1 o),h.2.1,h.2.2.1,λag hb=>⟨λo=>key ag o ((h.2.2.2 ag hb).1 o),(h.2.2.2 ag hb).2⟩⟩
theorem Holds.th (Δ:Holds S B σ H) (ν:∀b,¬H.fresh b->lD H H' b) (Ω:∀b,H'.fresh b->H.fresh b):Holds S B σ H'/\Ext S B H S B H':=by
 have Dx:∀b o x,H.aS b o=some x->¬H.fresh b:=λb o x h Ρ=>by rw[Ρ.1 o] at h;cases h
 refine⟨⟨λb o v h=>?_,Δ.len,λid r bo μ eJ=>?_,Δ.inj,Δ.sep⟩,⟨λ_ _ _ h=>h,λb _ Ρ=>og.of (ν b Ρ),λb h=>.inl h,λb o v h=>.inl h,Ω⟩⟩
 ·obtain⟨p,ω⟩:=Δ.dy b o v h;exact⟨p,by rw[(ν b (Dx b o _ ω)).1];exact ω⟩
 ·by_cases fr:r.live
  ·refine(Δ.row id r bo μ eJ).later (b8.refl S B σ) (λb N e=>ν b (Δ.o1 μ fr (by rw[eJ,e]))) λm left cur e=>?_;subst e;obtain⟨_,_,a4,lB,xs,clock,seen,_,U,⟨es,γ⟩,_⟩:=Δ.row id _ bo μ eJ;exact⟨rfl,rfl,λb N hb=>ν b (Δ.o1 γ trivial hb)⟩
  ·cases r<;>first|exact absurd trivial fr|trivial
theorem Ext.th (h:Ext fE [] H aJ [] H') {b:Nat} (Ρ:¬H.fresh b):lD H H' b:=(h.gl b (λ⟨N,x⟩=>by simp at x) Ρ).th λ_=>rfl
theorem P9 {w:World} (di:Fits H w) (dF:Fits E w) {b o:Nat} {u v:Value} {p q:Bool} (h:H.aS b o=some (u,p)) (k:E.aS b o=some (v,q)):u=v:=by
 have U:=di.aS b o u p h;rw[dF.aS b o v q k] at U;exact(Option.some.inj U).symm
theorem bφ {w:World} (di:Fits H w) (dF:Fits E w) (iR:Apart H E) {b N:Nat} {t:TypeId} (μ:E.row b=some (t,N)) (Β:∀o,o<N->∃v,E.aS b o=some (v,true)):(∀o,H.aS b o=none)/\lD E (join H E) b:=by
 obtain⟨c,U,γ⟩:=dF.row b t N μ;have Θ:∀o,H.aS b o=none:=λo=>by
  cases δ:H.aS b o with
  | none=>rfl
  | some x=>
   have ε:=di.aS b o x.1 x.2 δ;by_cases aN:o<N
   ·exact absurd ⟨x,δ⟩ (iR.rJ b o (Β o aN))
   ·simp only[World.cell?,U] at ε;simp[γ,aN] at ε
 refine⟨Θ,λo=>join_none (Θ o),?_,?_⟩
 ·cases δ:H.row b with
  | none=>simp only[join,δ]
  | some x=>
   obtain⟨c',ο,Ι⟩:=di.row b x.1 x.2 δ;rw[U] at ο;cases ο;simp only[join,δ,μ];obtain⟨o0,h9⟩:=x
   simp_all
 ·cases δ:H.obj b with
  | none=>simp only[join,δ]
  | some x=>
   obtain⟨ο,Ι⟩:=di.obj b x δ;rw[U] at ο;cases ο;simp[Obj.sS] at Ι
theorem P' (Δ:Holds S [] [] H) (dF:Holds iq B σ E) (iR:Apart H E) (hw:∃w,Fits H w/\Fits E w) (mT:∀r∈σ,zi r) :
  Holds (S.plus iq) B σ (join H E)/\b8 S (S.plus iq) [] B [] σ/\b8 iq (S.plus iq) B B σ σ:=by
 obtain⟨w,di,eI⟩:=hw;have st:∀b o v,iq b o=some v->S.plus iq b o=some v:=λb o v h=>by
  cases ξ:S b o with
  | none=>rw[FQ ξ];exact h
  | some u=>
   obtain⟨p,ω⟩:=Δ.dy b o u ξ;obtain⟨q,Χ⟩:=dF.dy b o v h;rw[BU ξ,P9 di eI ω Χ]
 have l1:b8 S (S.plus iq) [] B [] σ:=⟨λb o v h=>BU h,λid r h=>by simp at h⟩
 have l2:b8 iq (S.plus iq) B B σ σ:=⟨st,λid r h=>⟨r,h,r.tc _⟩⟩
 have mine:∀(id:Nat) (r:Row) (b N:Nat),σ[id]?=some r->B[id]?=some (some (b,N))->(∀o,H.aS b o=none)/\lD E (join H E) b:=λid r b N μ hb=>by
  obtain⟨t,k,l,rfl⟩:=mT r (cy μ);obtain⟨Ζ,_,Ε,_⟩:=dF.row id _ _ μ hb;exact bφ di eI iR Ζ Ε
 refine⟨⟨λb o v h=>?_,dF.len,λid r bo μ eJ=>?_,dF.inj,λid r b N μ fr eJ o=>?_⟩,l1,l2⟩
 ·cases ξ:S b o with
  | some u=>
   rw[BU ξ] at h;cases h;obtain⟨p,ω⟩:=Δ.dy b o _ ξ;exact⟨p,join_some ω⟩
  | none=>
   rw[FQ ξ] at h;obtain⟨p,ω⟩:=dF.dy b o v h;cases δ:H.aS b o with
   | none=>exact⟨p,by rw[join_none δ];exact ω⟩
   | some x=>
    obtain⟨u,q⟩:=x;have:=P9 di eI δ ω;subst this;exact⟨q,join_some δ⟩
 ·refine(dF.row id r bo μ eJ).later l2 (λb N e=>(mine id r b N μ (by rw[eJ,e])).2) λm left cur e=>?_;subst e;obtain⟨t,k,l,e⟩:=mT _ (cy μ);cases e
 ·have U:=(mine id r b N μ eJ).1 o;cases ξ:S b o with
  | some u=>
   obtain⟨p,ω⟩:=Δ.dy b o u ξ;rw[U] at ω;cases ω
  | none=>rw[FQ ξ];exact dF.sep id r b N μ fr eJ o
theorem JU {o:Nat} {x:Value×Bool} (ν:G.aS β o=some x) {b:Nat} (Ρ:G.fresh b):β<b:=by
 by_cases e:β<b
 ·exact e
 ·rcases Nat.lt_or_ge b β with h|h
  ·have:=(Ρ.2.2.2 β h).1 o;rw[ν] at this;cases this
  ·obtain rfl:β=b:=J
   rw[Ρ.1 o] at ν;cases ν
theorem JV {b:Nat} (Ρ:G.fresh β) (h:β<b):G.fresh b:=
 ⟨(Ρ.2.2.2 b h).1,(Ρ.2.2.2 b h).2.1,(Ρ.2.2.2 b h).2.2,λag ec=>Ρ.2.2.2 ag (Nat.lt_trans h ec)⟩
theorem bχ (eC:∀b o v,S b o=some v->bS b o≠none\/β<b):oH β bS (nX S):=
 ⟨λb o x h=>let ⟨v,U,_⟩:=FP h;eC b o v U,λb x h=>(by cases h),λb x h=>(by cases h)⟩
theorem oH.join (h:oH β bS G) (k:oH β bS E):oH β bS (join G E):=by
 refine⟨λb o x δ=>?_,λb x δ=>(bο δ).elim (h.row b x) (k.row b x),λb x δ=>(bπ δ).elim (h.obj b x) (k.obj b x)⟩;cases Ω:G.aS b o with
 | none=>rw[join_none Ω] at δ;exact k.aS b o x δ
 | some y=>exact h.aS b o y Ω
theorem oH.ext (h:oH β bS G) {G':Γ} (he:Ext S B G aJ B' G') (dV:∀b,B.has b->β<b) {o:Nat} {x:Value×Bool} (ν:G.aS β o=some x):oH β bS G':=by
 have key:∀b,¬β<b->og S G G' b:=λb hb=>he.gl b (λk=>hb (dV b k)) λk=>hb (JU ν k);refine⟨λb o x δ=>?_,λb x δ=>?_,λb x δ=>?_⟩
 ·by_cases hb:β<b
  ·exact .inr hb
  ·rcases(key b hb).1 o with e|⟨v,p,_,e,_⟩
   ·rw[e] at δ;exact h.aS b o x δ
   ·exact h.aS b o _ e
 ·by_cases hb:β<b
  ·exact hb
  ·rw[(key b hb).2.1] at δ;exact h.row b x δ
 ·by_cases hb:β<b
  ·exact hb
  ·rw[(key b hb).2.2] at δ;exact h.obj b x δ
theorem Qa {G':Γ} (he:Ext S B G aJ B' G') (dV:¬B.has β) (ν:∃o x,G.aS β o=some x):∃o x,G'.aS β o=some x:=by
 obtain⟨o,x,δ⟩:=ν;rcases(he.gl β dV (λΡ=>by rw[Ρ.1 o] at δ;cases δ)).1 o with e|⟨v,p,_,_,e⟩
 ·exact⟨o,x,by rw[e];exact δ⟩
 ·exact⟨o,_,e⟩
theorem oH.blocks (h:oH β bS E) (dF:Holds iq B σ E) (mT:∀r∈σ,zi r) {b:Nat} (hb:B.has b):β<b:=by
 obtain⟨N,cK⟩:=hb;obtain⟨id,cb⟩:=List.getElem?_of_mem cK;have aN:id<σ.length:=by rw[<-dF.len];exact(b0.1 cb).1
 have μ:=a6 aN;obtain⟨t,k,l,e⟩:=mT _ (cy μ);rw[e] at μ;exact h.row b _ (dF.row id _ _ μ cb).1
theorem bψ (he:Ext fJ [] et S [] H) (eC:∀b o v,bS b o=some v->S b o=some v) (Ρ:et.fresh β) (hi:oH β bS E) (Δ:Holds S [] [] H) (dF:Holds iq B σ E) (mT:∀r∈σ,zi r) :
  Ext fJ [] et (S.plus iq) B (join H E):=by
 have yK:∀b,¬a0.has ([]:a0) b:=λb ⟨N,h⟩=>by simp at h
 have old:∀b,¬et.fresh b->¬β<b:=λb h k=>h (JV Ρ k)
 have same:∀b,¬β<b->∀o,(join H E).aS b o=H.aS b o:=λb hb o=>by
  cases δ:H.aS b o with
  | some x=>rw[join_some δ]
  | none=>
   rw[join_none δ];cases Μ:E.aS b o with
   | none=>rfl
   | some y=>
    rcases hi.aS b o y Μ with k|k
    ·cases ξ:bS b o with
     | none=>exact absurd ξ k
     | some v=>
      obtain⟨p,ω⟩:=Δ.dy b o v (eC b o v ξ);rw[δ] at ω;cases ω
    ·exact absurd k hb
 refine⟨λb o v h=>BU (he.dy b o v h),λb _ pS=>?_,λb hb=>.inr (JV Ρ (hi.blocks dF mT hb)),λb o v h=>?_,λb h=>he.grow b ?_⟩
 ·have hb:=old b pS;obtain⟨k1,bT,k9⟩:=he.gl b (yK b) pS;refine⟨λo=>by rw[same b hb o];exact k1 o,?_,?_⟩
  ·cases δ:E.row b with
   | none=>rw[<-bT];simp only[join,δ];cases H.row b<;>rfl
   | some x=>exact absurd (hi.row b x δ) hb
  ·cases δ:E.obj b with
   | none=>rw[<-k9];simp only[join,δ];cases H.obj b<;>rfl
   | some x=>exact absurd (hi.obj b x δ) hb
 ·cases ξ:S b o with
  | some u=>rw[BU ξ] at h;cases h;exact he.r7 b o _ ξ
  | none=>
   rw[FQ ξ] at h;obtain⟨p,ω⟩:=dF.dy b o v h;rcases hi.aS b o _ ω with k|k
   ·cases sG:bS b o with
    | none=>exact absurd sG k
    | some u=>rw[eC b o u sG] at ξ;cases ξ
   ·exact .inr (.inr (JV Ρ k))
 ·have c:∀b o,(join H E).aS b o=none->H.aS b o=none:=λb o h=>by
   cases δ:H.aS b o with
   | none=>rfl
   | some x=>rw[join_some δ] at h;cases h
  have r:∀b,(join H E).row b=none->H.row b=none:=λb h=>by
   cases δ:H.row b with
   | none=>rfl
   | some x=>simp only[join,δ] at h;cases h
  have o:∀b,(join H E).obj b=none->H.obj b=none:=λb h=>by
   cases δ:H.obj b with
   | none=>rfl
   | some x=>simp only[join,δ] at h;cases h
  exact⟨λo'=>c b o' (h.1 o'),r b h.2.1,o b h.2.2.1,λag hb=>⟨λo'=>c ag o' ((h.2.2.2 ag hb).1 o'),r ag (h.2.2.2 ag hb).2.1,o ag (h.2.2.2 ag hb).2.2⟩⟩
end
end Go.TL
namespace Go.TL
open Go.Conc Go.Proofs
open Go.ConcN (sumTo upd sumTo_upd upd_ne upd_same sumTo_congr le_sumTo)
noncomputable def under (P:Program):Frame:={(default:Frame) with fn:=P.funcs.size,defers:=[],mode:=.panicking [goexitEntry]}
theorem bω {P:Program} {g:FuncId} {cap:Array Value} (Ω:Plain P g) (w:World):stepG P false (born P ⟨.fn (.func g) cap,#[]⟩) w=.go (Go.Conc.G (Frame.enter P g cap .deferred) [under P]) w #[]:=by
 obtain⟨fn,U,γ,ο⟩:=Ω;have h4:¬fn.name = "runtime.NumGoroutine" := by simpa using γ
 have bΑ:¬fn.body=none:=by intro e;rw[e] at ο;cases ο
 simp[born,stepG,unwind,callDeferred,invoke,callFunc,U,h4,bΑ,seen,GStep.after,Go.Conc.G,under]
theorem bΒ {P:Program} {b:Frame} {fn:Func} (bR:P.funcs[b.fn]?=some fn) (fs:fn.results=#[]) (e6:b.defers=[]) (hm:b.mode=.returning) (ψ:b.kind=.deferred):me P 0 (Go.Conc.G b [under P]):=by
 refine⟨2,QuitsD.ctl (g':=Go.Conc.G (under P) []) rfl (λw=>?_) ?_⟩
 ·simp[Go.Conc.G,stepG,unwind,hm,e6,bR,doReturn,results,fs,ψ,under,seen,GStep.after,goexitEntry]
 ·refine QuitsD.ctl (g':={Go.Conc.G (under P) [] with status:=.finished}) rfl (λw=>?_) ⟨rfl,rfl⟩;simp[Go.Conc.G,stepG,unwind,under,goexitEntry,Frame.catches];rfl
def tW (l:am):θ:=if l.isEmpty then .sl true 0 [] else .ms 1 l.length 0 l.length
def hl (l:am):ac:=.cells 99 1 [tW l]::bF 110 3 l
theorem JW:tW []=.sl true 0 []:=rfl
theorem FR {l:am} (h:l≠[]):tW l=.ms 1 l.length 0 l.length:=by unfold tW;rw[if_neg (by simpa using h)]
theorem Qb {l:am} {x:θ}:tW (l++[x])=.ms 1 (l.length+1) 0 (l.length+1):=by rw[FR η];simp
theorem FT (l:am):∀r∈hl l,zi r:=by
 intro r h;unfold hl bF at h;rcases List.mem_cons.1 h with rfl|h
 ·exact⟨_,_,_,rfl⟩
 ·split at h
  ·cases h
  ·simp at h;subst h;exact⟨_,_,_,rfl⟩
def xD (β:Nat) (bS:aO) (o:Nat) (fd:Nat->Option Found) (L:List Nat) (E:Γ):Prop:=
 oH β bS E/\∃S B,Holds S B (hl ((L.filterMap fd).map du)) E/\B[0]?=some (some (o,1))
theorem bΓ {S aJ:aO} {B B':a0} {l dp:am} {m:Nat} (h:b8 S aJ (B.take m) B' ((hl l).take m) (hl dp)) (hm:0<m):B'[0]?=B[0]?:=by
 obtain⟨m,rfl⟩:∃k,m=k+1:=⟨m-1,J⟩;obtain⟨r',U,γ⟩:=h.rows 0 (.cells 99 1 [tW l]) (by simp[hl]);have:r'=.cells 99 1 [tW dp]:=by simpa[hl] using U.symm
 subst this;rcases γ with⟨l2,_,_,ο⟩|ο
 ·simpa[List.getElem?_take] using ο
 ·have:=ο 1 η;simp[Row.hT] at this
section
variable {β s m o k:Nat} {S bS:aO} {fd:Nat->Option Found} {sp:Spec} {eA:aU} {a b:Int} {v1 v2 rv:Value} {f:Found} {n:Nat}
abbrev m6 (s:Nat) (sp:Spec):a7:=⟨Γ.empty,λ_=>none,λ_=>.nil,upd (λ_=>none) s (some sp),λ_=>none,0,false⟩
abbrev FU (s m o:Nat) (v1 v2 rv:Value):Array Value:=#[ptr s 0,v1,v2,rv,ptr m 0,ptr o 0]
abbrev JX (s m o:Nat) (eA:aU) (a b:Int):am:=[.z (ptr s 0),.au [aY eA.ar,aX eA.az,bO eA.cells],.au [I a],.au [I b],.z (ptr m 0),.z (ptr o 0)]
theorem Qc:(m6 s sp).spec s=some sp:=upd_same (λ_=>(none:Option Spec)) s (some sp)
theorem Qd (fQ:sp.a4=some m) (hk:sp.top<7):j8 (m6 s sp) s m sp:=⟨rfl,rfl,Qc,fQ,hk,λ_ _=>trivial⟩
theorem bΔ (hk:sp.top<7):P7 (m6 s sp) s sp:=⟨rfl,rfl,Qc,hk,λ_ _=>trivial⟩
theorem bΕ (fQ:sp.a4=some m) (hk:sp.top<7) (eH:sp.D k Γ.empty) {Q:Value->Prop} {c:Frame} {H:Γ} {v:Option (Nat×aW)} {d1:Deferred} (lk:xi Tryz.prog d1 142 #[ptr s 0])
  (hm:c.mode=.returning) (e6:c.defers=[d1]) (ψ:c.kind=.deferred) (bR:c.fn=141):cG Tryz.prog Q false (bB (m6 s sp) s (.ch k .done .work) v 0) c [under Tryz.prog] H:=by
 letI:bq:=fi;have δ:Seq (one (bB (m6 s sp) s (.ch k .done .work) v 0)):=Seq.vv trivial rfl rfl;refine aV.deferred (x:=one _) δ (by rw[hm];simp) e6 lk.t1 lk.t2 lk.run (λy Μ=>?_) _ rfl;cases Μ;refine bξ (bΔ hk) eH hm ?_;exact bΒ (fn:=Tryz.f141) (by rw[bR];exact Tryz.func141) rfl rfl hm ψ
theorem bΖ (fQ:sp.a4=some m) (hk:sp.top<7) (cV:sp.av=xD β bS o fd) (eH:sp.D k Γ.empty) {Q:Value->Prop} {c:Frame} {lI:aO} {lJ:a0} {j4:Γ} {L:List Nat} {v:Option (Nat×aW)} {d1 d2:Deferred}
  (lk:xi Tryz.prog d1 142 #[ptr s 0]) (j9:xi Tryz.prog d2 145 #[ptr m 0]) (hm:c.mode=.returning) (e6:c.defers=[d2,d1]) (ψ:c.kind=.deferred) (bR:c.fn=141)
  (Δ:Holds lI lJ (hl (((L++[k]).filterMap fd).map du)) j4) (dV:lJ[0]?=some (some (o,1))) (hi:oH β bS j4) (ν:∃q x,j4.aS β q=some x) :
  cG Tryz.prog Q false (bB (m6 s sp) s (.ch k (.dA L) .work) v 0) c [under Tryz.prog] j4:=by
 letI:bq:=fi;have δ:Seq (one (bB (m6 s sp) s (.ch k (.dA L) .work) v 0)):=Seq.vv trivial rfl rfl;refine aV.deferred (x:=one _) δ (by rw[hm];simp) e6 j9.t1 j9.t2 j9.run (λy Μ=>?_) _ rfl;cases Μ;refine aχ (x:=m6 s sp) (s:=s) (c:={c with defers:=[d1]}) (Qd fQ hk) Δ hm λkI kJ he lU=>⟨Γ.empty,kJ,⟨Sub.empty _,Sub.refl _,(Apart.uM _).symm⟩,?_,λv2 ju iF _=>?_⟩
 ·rw[cV];obtain⟨dz,p2,p3⟩:=Δ.back he lU;obtain⟨q,x,Χ⟩:=ν;exact⟨hi.ext he (λb ⟨N,h⟩=>by simp at h) Χ,kI,lJ,dz,dV⟩
 ·exact bΕ fQ hk eH lk hm rfl ψ bR
end
section
variable {β s m o k:Nat} {S bS:aO} {fd:Nat->Option Found} {sp:Spec} {eA:aU} {a b:Int} {v1 v2 rv:Value} {f:Found} {n:Nat}
noncomputable abbrev bΗ (vs:Array Value) (ds:List Deferred):Frame:={Frame.enter Tryz.prog 141 vs .deferred with defers:=ds}
noncomputable def FV:Code:=Tryz.f141.body.getD .skip
theorem bΘ (fQ:sp.a4=some m) (hk:sp.top<7) (cV:sp.av=xD β bS o fd) (eH:sp.D k Γ.empty) (JY:∀c:bq,@aB c Tryz.prog 78 [du f,I (-1)] (I n)) (vD:fd k=if 0<n then some f else none) {Q:Value->Prop}
  {aJ:aO} {H' E:Γ} {L:List Nat} (Δ:Holds aJ [] [] H') (dF:sp.av L E) (iR:Apart H' E) (hw:∃w,Fits H' w/\Fits E w) (hlen:((L.filterMap fd).map du).length<=4294967295) (pT:oH β bS H') (bΙ:∃q x,H'.aS β q=some x)
  {t:Array Value} (ξ:dB aJ [] [] [(4,.z (ptr m 0)),(5,.z (ptr o 0)),(6,.au (du f).cells)] t) (cA:t.size=20) {vs:Array Value} {d1:Deferred} (lk:xi Tryz.prog d1 142 #[ptr s 0]) {ops:Array Oper} :
  cG Tryz.prog Q false (bB (m6 s sp) s (.ch k (.dA L) .work) none 0) (aD (bΗ vs [d1]) t [.inRegion ops [],.code (eh [1,1,1] FV)]) [under Tryz.prog] (join H' E):=by
 letI:bq:=fi;have δ:Seq (one (bB (m6 s sp) s (.ch k (.dA L) .work) none 0)):=Seq.vv trivial rfl rfl;rw[cV] at dF;obtain⟨hi,iq,sJ,xE,dV⟩:=dF;obtain⟨l,π⟩:=aF ((L.filterMap fd).map du);have jI:l.length<=4294967295:=π▸hlen;rw[<-π] at xE;obtain⟨JZ,l1,l2⟩:=P' Δ xE iR hw (FT l);have ma:∀b,sJ.has b->β<b:=λb=>hi.blocks xE (FT l);have FW:∃q x,(join H' E).aS β q=some x:=let ⟨q,x,h⟩:=bΙ;⟨q,x,join_some h⟩;have ax:t.getD 5 undef=ptr o 0:=by
  have:=ξ 5;generalize t.getD 5 undef=u at this;cases this;rfl
 have sG:dB (aJ.plus iq) sJ (hl l) [(4,.z (ptr m 0)),(5,.ak 0 1 0 0),(6,.au (du f).cells)] t:=λi=>by
  have ao:=(ξ i).later l1;simp only[a'] at ao ⊢;by_cases cR:4=i
  ·simpa[cR] using ao
  by_cases fy:5=i
  ·subst fy;simp only[show ¬4=5 by decide,if_false,if_true];rw[ax];have:=aA.ak (S:=aJ.plus iq) (B:=sJ) (σ:=hl l) (id:=0) (n:=1) (i:=0) (j:=0) (k:=1) (t:=99) (l:=[tW l]) (b:=o) (N:=1) (by simp[hl]) rfl dV;simpa using this
  ·simpa[cR,fy] using ao
 have leave:∀(dp:am) (ju:aO) (kK:a0) (iF:Γ) (c:Frame) (d2:Deferred),dp=((L++[k]).filterMap fd).map du->ff 1 (aJ.plus iq) sJ (join H' E) (hl l) ju kK iF (hl dp)->Holds ju kK (hl dp) iF->xi Tryz.prog d2 145 #[ptr m 0]->
   c.mode=.returning->c.defers=[d2,d1]->c.kind=.deferred->c.fn=141->cG Tryz.prog Q false (bB (m6 s sp) s (.ch k (.dA L) .work) none 0) c [under Tryz.prog] iF:=λdp ju kK iF c d2 e bY J0 j9 c1 c2 c3 c4=>by
  subst e;obtain⟨q,x,Χ⟩:=FW;exact bΖ fQ hk cV eH lk j9 c1 c2 c3 c4 J0 (by rw[bΓ bY.later J];exact dV) ((pT.join hi).ext bY.ext ma Χ) (Qa bY.ext (λh=>Nat.lt_irrefl _ (ma β h)) ⟨q,x,Χ⟩)
 refine V.here (x:=one _) (m:=1) (nt:=20) (S:=aJ.plus iq) (B:=sJ) (σ:=hl l) (env:=[(4,.z (ptr m 0)),(5,.ak 0 1 0 0),(6,.au (du f).cells)]) ?_ ⟨JZ,sG,cA,by simp[hl]⟩ _ rfl;refine V.gj δ rfl ?_;refine W.bL ?_;simp only[FV,Tryz.f141,Option.getD_some,eh];refine da ?_;refine W.cC (.stop ?_);refine V.defer δ rfl rfl rfl rfl rfl rfl rfl ⟨_,Tryz.func145,rfl,rfl⟩ λlI lJ j4 t3 d2 JM ik fv tL j9=>?_;obtain rfl:=nQ (l:=[ptr m 0]) tL;rintro y rfl;refine V.here (x:=one _) (m:=1) (nt:=20) ?_ fv _ rfl;refine V.gj δ rfl ?_;refine W.bL ?_;refine bc λΚ κ=>?_;refine aB.d (JY _) (bp ?_);apply κ;by_cases Θ:0<n
 ·refine aC (by simp[Θ]) ?_;refine W.gX (A:=[19]) Φ [] (hl (l++[du f])) (.stop ?_) (by
   by_cases Ψ:l=[]
   ·subst Ψ;(try simp);(repeat (rw[ah];simp[hl,JW,kL]));(try simp[hl,JW,kL]);exact⟨rfl,rfl⟩
   ·(try simp);(repeat (rw[ah];simp[hl,FR Ψ,eL Ψ,Qb,sr]));(try simp[hl,FR Ψ,eL Ψ,Qb,sr]);exact jI)
  intro ju kK iF t5 lq mf;refine aV.s' δ rfl rfl ?_;rintro y rfl;exact leave _ ju kK iF _ d2 (by rw[List.filterMap_append,List.map_append,<-π];simp[vD,Θ]) (ik.trans lq) mf.holds j9 rfl rfl rfl rfl
 ·refine ay (by simp;omega) ?_;refine da ?_;refine W.stop ?_;intro ju kK iF t5 lq mf;refine aV.s' δ rfl rfl ?_;rintro y rfl;exact leave _ ju kK iF _ d2 (by rw[List.filterMap_append,List.map_append,<-π];simp[vD,Θ]) (ik.trans lq) mf.holds j9 rfl rfl rfl rfl
theorem xF {S:aO} {B:a0} {σ:ac} {env env':ab} {t:Array Value} (h:dB S B σ env t) (ξ:∀p∈env',a' env p.1=p.2):dB S B σ env' t:=by
 induction env' with
 | nil=>exact λi=>.cz _
 | cons p l Α=>
  intro i;simp only[a'];split
  ·rename_i e;have:=ξ p η;rw[<-this,e];exact h i
  ·exact Α (λq Χ=>ξ q (by simp[Χ])) i
theorem bΚ (fQ:sp.a4=some m) (hk:sp.top<7) (cV:sp.av=xD β bS o fd) (eH:sp.D k Γ.empty) (bΜ:∀c:bq,@aB c Tryz.prog 143 [fu eA,aK (a,b)] (du f))
  (JY:∀c:bq,@aB c Tryz.prog 78 [du f,I (-1)] (I n)) (vD:fd k=if 0<n then some f else none) (bΝ:∀L:List Nat,L.Nodup->((L.filterMap fd).map du).length<=4294967295)
  (ν:∃q v,S β q=some v) (eC:∀b q v,S b q=some v->bS b q≠none\/β<b) (J1:gg S [] [] (JX s m o eA a b) (FU s m o v1 v2 rv)) {Q:Value->Prop} :
  Goes Tryz.prog Q false (born Tryz.prog ⟨.fn (.func 141) (FU s m o v1 v2 rv),#[]⟩) {bB (m6 s sp) s (.ch k .idle .work) none 0 with G:=nX S}:=by
 letI:bq:=fi;have vE:Seq (one (bB (m6 s sp) s (.ch k .idle .work) none 0)):=Seq.vv trivial rfl rfl;refine Quiet.goes (.cons ⟨rfl,rfl⟩ (λw=>bω ⟨_,Tryz.func141,rfl,rfl⟩ w) (.nil _)) (.inl rfl) ⟨rfl,rfl⟩ ?_;show cG Tryz.prog Q false (bB (m6 s sp) s (.ch k .idle .work) none 0) (Frame.enter Tryz.prog 141 (FU s m o v1 v2 rv) .deferred) [under Tryz.prog] (nX S);rw[q5 (body:=FV) Tryz.func141 rfl];refine V.here (x:=one _) (m:=0) (nt:=20) (S:=S) (B:=[]) (σ:=[]) (env:=entry 0 (JX s m o eA a b)) ?_ (gd.enter bτ J1 (Nat.le_refl _) η) _ rfl;refine V.gj vE rfl ?_;simp only[FV,Tryz.f141,Option.getD_some];refine da ?_;refine W.cC (.stop ?_);refine V.defer vE rfl rfl rfl rfl rfl rfl rfl ⟨_,Tryz.func142,rfl,rfl⟩ λlI lJ j4 t3 d1 JM ik fv tL lk=>?_;obtain rfl:=nQ (l:=[ptr s 0]) tL;obtain rfl:lJ=[]:=dO.1 fv.holds.len;rintro y rfl;refine V.here (x:=one _) (m:=0) (nt:=20) ?_ fv _ rfl;refine V.gj vE rfl ?_;refine W.bL ?_;refine da ?_;refine dj (A:=[6]) Φ λΚ κ=>bp ?_;refine aB.d (bΜ _) (bp ?_);apply κ;refine W.fix (id:=0) (σ':=[]) (Nat.zero_le _) rfl η η rfl [(4,.z (ptr m 0)),(5,.z (ptr o 0)),(6,.au (du f).cells)] (by simp[entry]) ?_;refine da ?_;refine W.cC (.stop ?_);refine V.call vE ⟨rfl,rfl,by simp[Frame.enter],rfl⟩ rfl rfl rfl ⟨_,Tryz.func144,rfl,rfl⟩ λkI p9 kJ t4 aυ tK q7 JD=>?_;obtain rfl:=nQ (l:=[ptr m 0]) JD;obtain rfl:p9=[]:=dO.1 q7.holds.len;rintro y rfl;refine aν (Qd fQ hk) q7.holds λju iF L E Qe J0 dF iR ⟨lF,Mm,hw⟩=>?_;rw[jl rfl];have pX:Ext S [] (nX S) ju [] iF:=ik.ext.trans (tK.ext.trans Qe);obtain⟨iz,u0,FX⟩:=ν;have ma:∀b,¬a0.has ([]:a0) b:=λb ⟨N,h⟩=>by simp at h
 exact bΘ fQ hk cV eH JY vD J0 dF iR hw (bΝ L lF) ((bχ eC).ext pX (λb h=>absurd h (ma b)) (JS FX)) (Qa pX (ma β) ⟨iz,_,JS FX⟩)
  (by
   refine dB.later (xF (q7.put (a:=.z (.tuple #[])) rfl (.z _)).cH (by simp[b7])) ⟨Qe.dy,λid r h=>by simp at h⟩) (q7.put (a:=.z (.tuple #[])) rfl (.z _)).size lk
end
end Go.TL
namespace Go.TL
open Go.Conc Go.Proofs
variable [bq]
noncomputable abbrev bΞ (vs:Array Value):Frame:=Frame.enter Tryz.prog 126 vs .normal
abbrev sK (L:Nat):θ:=.fn (.yield L) [] []
structure bΟ (Q:Value->Prop) (mn:Bool) (x:hz) (cs:List Frame) (vF:Frame) (o:Base) (L:Nat) (r:Loop) (n:Nat) (j' kg:Row) (Fnd:List (List Nat)->Prop):Prop where
 m:o.m=2
 df:fC 2 j'
 bE:fC 2 kg
 dc:r.params.size=1
 round:∀(l:List Nat) (rem:List (List Nat)),Fnd (l::rem)->l.length<=n->(∀x∈l,x<n)->∀(S:aO) (B:a0) (H:Γ) (ws:Array Value) (c:Frame),ff 2 o.S o.B o.H o.σ S B H [j',kg,fS l]->Holds S B [j',kg,fS l] H->¬B.has L->H.obj L=some (.loop r)->gg S B [j',kg,fS l] [.ms 2 l.length 0 l.length] ws->
  (Fnd rem->∀(aJ:aO) (B':a0) (H':Γ),ff 2 o.S o.B o.H o.σ aJ B' H' [j',kg,fS l]->b8 S aJ B B' [j',kg,fS l] [j',kg,fS l]->Holds aJ B' [j',kg,fS l] H'->¬B'.has L->H'.obj L=some (.loop r)->aV Tryz.prog Q mn x (c.finish (.bool true)) (vF::cs) H')->
  (∀H',(∀(c8:aO) (bN:Γ),Ext fE [] H' c8 [] bN->aV Tryz.prog Q mn x (vF.finish (.tuple #[])) cs bN)->aV Tryz.prog Q mn x (c.finish (.bool false)) (vF::cs) H')->
  aV Tryz.prog Q mn x (Frame.round L r.fn ((r.params.zip ws).foldl (λtmps (t,a)=>tmps.setIfInBounds t a) r.tmps) r.assign r.body .normal) (c::vF::cs) H
 done:Fnd []->∀(S:aO) (B:a0) (H:Γ),ff 2 o.S o.B o.H o.σ S B H [j',kg]->Holds S B [j',kg] H->¬B.has L->H.obj L=some (.loop r)->aV Tryz.prog Q mn x (vF.finish (.tuple #[])) cs H
def sL (c i:Nat):List Int:=(List.range i).map (λj:Nat=>(j:Int))++List.replicate (c-i) 0
theorem bΡ {c i:Nat} (h:i<c):(sL c i).set i (i:Int)=sL c (i+1):=by
 unfold sL;have Ζ:((List.range i).map λj:Nat=>(j:Int)).length=i:=η;have Ε:c-i=(c-(i+1))+1:=J;rw[List.set_append_right _ _ J,Ζ,Nat.sub_self,Ε,List.replicate_succ,List.set_cons_zero,List.range_succ,List.map_append];simp
theorem bΤ {c i:Nat} (h:i<=c):(sL c i).length=c:=by simp[sL];omega
theorem bΥ (c:Nat):(sL c c).map I=(List.range c).map λn:Nat=>I n:=by simp[sL]
section
variable {Q:Value->Prop} {mn:Bool} {x:hz} {cs:List Frame} {vF:Frame} {o:Base} {L:Nat} {r:Loop} {n:Nat} {j' kg:Row} {Fnd:List (List Nat)->Prop} {vs:Array Value}
theorem bΦ (δ:Seq x) (Θ:n<=10) (hC:bΟ Q mn x cs vF o L r n j' kg Fnd) (ao:Fnd (lM n 0)) :
  tS Tryz.prog Q mn x (bΞ vs) (vF::cs) 72 o L r [.code (Tryz.f126.body.getD .skip)] (entry 0 [sK L,.au [I n]]) [j',kg]:=by
 have hm:=hC.m;refine tS.gj δ rfl ?_;simp only[Tryz.f126,Option.getD_some];have Bt:=eX (show n<11 by omega) J;refine aE Bt ?_;refine W.iter (λc:Nat=>c<=n+1/\Fnd (lM n c)) (λc=>[(0,sK L),(1,.au [I n]),(9,I ((n:Int)+1)),(10,I c)]) (λ_=>[j',kg]) (λc=>n+1-c) 0 ⟨Nat.zero_le _,ao⟩ rfl (by simp[entry,Bt]) (λc ε Α=>?_);obtain⟨lE,eI⟩:=ε;refine Η ?_;by_cases pO:c<n+1
 ·refine aC (by simp;omega) ?_;refine Η ?_;have iS:(0:Int)<=c:=J;have bΧ:(8:Int)*c<=281474976710656:=J;refine dj (A:=[14]) Φ λΚ κ=>bp ?_;simp[bΧ];(repeat (rw[ah];simp));apply κ;refine Η ?_;refine W.iter (λi:Nat=>i<=c) (λi=>[(0,sK L),(1,.au [I n]),(9,I ((n:Int)+1)),(10,I c),(3,I c),(4,.ms 2 c 0 c),(16,I c),(17,I i)]) (λi=>[j',kg,.cells 3 1 ((sL c i).map I)]) (λi=>c-i) 0 (Nat.zero_le _) (by simp[sL]) η (λi hi fL=>?_);refine Η ?_;by_cases zj:i<c
  ·refine aC (by simp[zj]) ?_;have gT:=eX zj (show c<2 ^ 62 by omega);have Eb:=bΤ (Nat.le_of_lt zj);have qU:=bΡ zj;obtain⟨G,di⟩:=aF (sL c i);rw[<-di] at Eb qU ⊢;have bΨ:i<G.length:=J;refine aE (ς Eb (ς zj (ς bΨ gT))) ?_;refine W.to (fL (i+1) zj J) ?_ ?_
   ·rw[<-qU];simp
   ·simp[gT]
  ·have eW:i=c:=J
   subst eW;refine ay η ?_;refine W.exit rfl ?_;rw[bΥ]
   repeat apply ae
   refine W.iter (λx:Nat×List Nat=>rp n x.1 x.2=true/\x.2.length=i/\Fnd (pq n x.1 x.2++lM n (i+1))) (λ_=>[(0,sK L),(1,.au [I n]),(9,I ((n:Int)+1)),(10,I i),(3,I i),(4,.ms 2 i 0 i)]) (λx=>[j',kg,fS x.2]) (λx=>x.1) (300,List.range i)
    ⟨ZH n J i pO,η,by rw[<-ZI pO];exact eI⟩ rfl η (λx δ ss=>?_)
   obtain⟨g,l⟩:=x;obtain⟨ea,jI,J2⟩:=δ;simp only at ea jI J2 ⊢
   repeat apply ae
   refine W.cC ?_;refine fM [0,1] [2,3] ?_;refine W.stop ?_;obtain⟨rem,bΩ,Qf⟩:∃rem,pq n g l++lM n (i+1)=l::rem/\((rn n l=none/\rem=lM n (i+1))\/∃dG ai,rn n l=some dG/\g=ai+1/\rem=pq n ai dG++lM n (i+1)/\rp n ai dG=true):=by
    cases vG:rn n l with
    | none=>exact⟨lM n (i+1),by rw[ZL vG];rfl,.inl ⟨rfl,rfl⟩⟩
    | some dG=>
     obtain⟨ai,Ζ,Ε,a8⟩:=ZM ea vG;exact⟨pq n ai dG++lM n (i+1),by rw[Ε];rfl,.inr ⟨dG,ai,rfl,Ζ,rfl,a8⟩⟩
   rw[bΩ] at J2;have aN:=ZK ea;refine tS.yield δ ⟨rfl,rfl,by simp[Frame.enter],rfl⟩ rfl rfl rfl hC.dc.symm λS B H t ws ν ω ma ad hv=>?_;refine hC.round l rem J2 J aN S B H ws _ (by rw[<-hm];exact ν) ω.holds ma ad (by rw[jI];exact hv) (λJ3 aJ B' H' ew ER jo cα rb=>?_) (λH' ξ=>?_)
   ·rw[jl rfl];have BV:dB aJ B' [j',kg,fS l] [(27,.z (.bool true)),(0,sK L),(1,.au [I n]),(9,I ((n:Int)+1)),(10,I i),(3,I i),(4,.ms 2 i 0 i)] (t.setIfInBounds 27 (.bool true)):=xF (dB.put (ω.cH.later ER) (d:=27) (by rw[ω.size];omega) (.z _)) η;refine(tS.gj (env:=[(27,.z (.bool true)),(0,sK L),(1,.au [I n]),(9,I ((n:Int)+1)),(10,I i),(3,I i),(4,.ms 2 i 0 i)]) (σ:=[j',kg,fS l]) (o:=o) (L:=L) (r:=r) (nt:=72) δ rfl ?_) aJ B' H' _ (by rw[hm];exact ew) ⟨jo,BV,Eq.trans (Array.size_setIfInBounds ..) ω.size,by rw[hm];simp⟩ cα rb;refine fM [3] [] ?_;refine W.bL ?_;refine ay rfl ?_;have h0:IntKind.i64.wrap ((i:Int)-1)=(i:Int)-1:=IntWalk.i64_in _ J;refine aE h0 ?_;refine W.iter (λe:Nat=>e<=i/\rm n l i=rm n l e) (λe=>[(0,sK L),(1,.au [I n]),(9,I ((n:Int)+1)),(10,I i),(3,I i),(4,.ms 2 i 0 i),(6,I ((e:Int)-1))]) (λ_=>[j',kg,fS l]) (λe=>e) i ⟨Nat.le_refl _,rfl⟩ rfl (by simp[h0]) (λe he Aj=>?_);obtain⟨mξ,Qg⟩:=he
    repeat apply ae
    have Bu:=eX pO (show n+1<2 ^ 62 by omega)
    have tF:rn n l=(rm n l e).map λq=>nR l q (l.length-q):=by unfold rn;rw[jI,Qg]
    cases e with
    | zero=>
     have HB:rem=lM n (i+1):=by
      rcases Qf with⟨_,h⟩|⟨dG,ai,h,_⟩
      ·exact h
      ·rw[tF] at h;simp[rm] at h
     rw[HB] at J3;refine vf ?_;refine ay rfl ?_;refine W.exit rfl ?_;refine Η ?_;refine aC rfl ?_;refine W.exit rfl ?_;refine W.drop (h:=2) (σ':=[j',kg]) (by rw[hm];exact Nat.le_refl _) η (λid q cb Χ=>by
      match id,cb,Χ with
      | 0,_,Χ=>simp at Χ;subst Χ;exact hC.df
      | 1,_,Χ=>simp at Χ;subst Χ;exact hC.bE) rfl [(0,sK L),(1,.au [I n]),(9,I ((n:Int)+1)),(10,I i)] (by simp[kG]) ?_
     refine aE Bu ?_;refine W.to (Α (i+1) ⟨pO,J3⟩ J) rfl ?_;simp[Bu]
    | succ e=>
     have oh:e<l.length:=J
     have hle:=aN _ (List.getElem_mem oh)
     have FY:l.getD e 0=l[e]:=by simp[List.getD_eq_getElem?_getD,oh]
     have g4:IntKind.i64.wrap ((n:Int)-i)=(n:Int)-i:=IntWalk.i64_in _ J
     have gZ:IntKind.i64.wrap ((n:Int)-i+e)=(n:Int)-i+e:=IntWalk.i64_in _ J
     have jQ:IntKind.i64.wrap ((e:Int)-1)=(e:Int)-1:=IntWalk.i64_in _ J
     have Qh:e<i:=J
     have sG:((e+1:Nat):Int)-1=e:=J;rw[sG];refine dH (ς oh (ς Qh (ς jI (ς g4 gZ)))) ?_;by_cases Χ:l[e]+i=n+e
     ·have FZ:rm n l (e+1)=rm n l e:=by rw[rm,if_pos (by rw[FY,jI];exact Χ)]
      refine aC (by simp;omega) ?_;refine aE jQ ?_;refine W.to (Aj e ⟨J,by rw[Qg,FZ]⟩ J) rfl ?_;simp[jQ]
     ·have FZ:rm n l (e+1)=some e:=by rw[rm,if_neg (by rw[FY,jI];exact Χ)]
      refine ay (by simp;omega) ?_;refine W.exit rfl ?_;refine Η ?_;refine ay η ?_;obtain⟨dG,ai,hZ,mο,cβ,cγ⟩:∃dG ai,rn n l=some dG/\g=ai+1/\rem=pq n ai dG++lM n (i+1)/\rp n ai dG=true:=by
       rcases Qf with⟨h,_⟩|h
       ·rw[tF,FZ] at h;cases h
       ·exact h
      have jw:dG=nR l e (i-e):=by
       rw[tF,FZ] at hZ;simp at hZ;rw[<-hZ,jI]
      have cδ:IntKind.i64.wrap ((l[e]:Int)+1)=(l[e]:Int)+1:=IntWalk.i64_in _ J
      have Qi:IntKind.i64.wrap ((e:Int)+1)=(e:Int)+1:=IntWalk.i64_in _ J;refine aE (ς oh (ς Qh (ς jI (ς cδ Qi)))) ?_;refine W.iter (λp:Nat=>e+1<=p/\p<=i) (λp=>[(0,sK L),(1,.au [I n]),(9,I ((n:Int)+1)),(10,I i),(3,I i),(4,.ms 2 i 0 i),(7,I p)]) (λp=>[j',kg,fS (nR l e (p-e))]) (λp=>i-p) (e+1) ⟨Nat.le_refl _,J⟩ (by
       have:e+1-e=1:=J;rw[this,ZN oh];simp) (by simp[Qi]) (λp ω aQ=>?_)
      obtain⟨nI,nJ⟩:=ω;refine Η ?_;by_cases Qj:p<i
      ·refine aC (by simp[Qj]) ?_;obtain⟨q,mπ⟩:=aF (p-1);obtain⟨R,aM⟩:=aF (nR l e (p-e));have j6:R.length=i:=by rw[aM,Pr J,jI]
       have Qk:q<R.length:=J
       have cε:p<R.length:=J
       have cζ:q<i:=J
       have F0:R[q]=l[e]+(p-e):=by
        have:=ZO (l:=l) (i:=e) (k:=p-e) J J
        have Ζ:e+(p-e)-1=q:=J;rw[Ζ,<-aM,FY] at this;simpa[List.getD_eq_getElem?_getD,Qk] using this
       have u4:R.set p (R[q]+1)=nR l e (p+1-e):=by
        have:=ZP (l:=l) (i:=e) (k:=p-e) J
        have Ζ:e+(p-e)=p:=J
        have Ε:p-e+1=p+1-e:=J;rw[Ζ,Ε,<-aM,FY,<-F0] at this;exact this
       have zk:R[q]<100:=J
       have cη:IntKind.i64.wrap ((p:Int)-1)=(q:Int):=by rw[IntWalk.i64_in _ J];omega
       have cθ:IntKind.i64.wrap ((R[q]:Int)+1)=(R[q]:Int)+1:=IntWalk.i64_in _ J
       have Ql:IntKind.i64.wrap ((p:Int)+1)=(p:Int)+1:=IntWalk.i64_in _ J;rw[<-aM];refine aE (ς cη (ς Qk (ς cε (ς cζ (ς Qj (ς j6 (ς cθ Ql))))))) ?_;refine W.to (aQ (p+1) ⟨J,J⟩ J) ?_ ?_
       ·rw[<-u4];simp
       ·simp[Ql]
      ·have cι:p=i:=J
       subst cι;refine ay η ?_;refine W.exit rfl ?_
       repeat apply ae
       refine W.to (ss (ai,dG) ⟨cγ,by rw[jw,Pr J,jI],by rw[<-cβ];exact J3⟩ (by show ai<g;omega)) (by rw[jw]) ?_;simp
   ·rw[jl rfl];have BV:dB fE [] [] [(27,.z (.bool false))] (t.setIfInBounds 27 (.bool false)):=λj=>by
     simp only[a'];split
     ·rename_i e;subst e;have:(t.setIfInBounds 27 (Value.bool false)).getD 27 undef=.bool false:=by
       have cκ:27<t.size:=by rw[ω.size];omega
       simp[Array.getD_eq_getD_getElem?,cκ]
      rw[this];exact .z _
     ·exact .cz _
    refine V.here (m:=0) (nt:=72) (S:=fE) (B:=[]) (σ:=[]) (env:=[(27,.z (.bool false))]) ?_ ⟨zc H',BV,Eq.trans (Array.size_setIfInBounds ..) ω.size,Nat.zero_le _⟩;refine V.gj δ rfl ?_;refine fM [3] [] ?_;refine W.bL ?_;refine aC rfl ?_;refine W.stop ?_;refine V.Jo δ rfl rfl rfl rfl Tryz.func126 rfl λbS b1 H1 q8 kz=>?_;obtain rfl:b1=[]:=dO.1 kz.len;exact ξ bS H1 q8.ext
 ·have Jg:c=n+1:=J
  subst Jg;refine ay η ?_;refine W.exit rfl ?_;refine W.stop ?_;intro S B H t ν ω ma ad;rw[ZJ] at eI;refine aV.s' δ rfl rfl (aV.back δ rfl rfl (.inl rfl) Tryz.func126 ?_);rw[results_none rfl];rw[hm] at ν;exact χ.pure' (hC.done eI S B H ν ω.holds ma ad)
end
theorem cμ (n:Nat):aB Tryz.prog 83 [I n] (.fn (.func 126) [] [.au [I n]]):=by
 refine af.body Φ Tryz.func83 rfl rfl Tryz.ntmps83 rfl rfl η ?_;refine Η ?_;refine W.rt ?_;exact .refl _
theorem Ext.Qm {S:aO} {B:a0} {H:Γ} {r:Nat} {y:Obj} (Ρ:H.fresh r):Ext S B H S B (H.bQ r y):=
 ⟨λ_ _ _ h=>h,λb _ hb=>by
  have:b≠r:=λe=>hb (e▸Ρ);exact og.of ⟨λ_=>rfl,rfl,by simp[Γ.bQ,this]⟩,λb h=>.inl h,λb o v h=>.inl h,Γ.HH⟩
theorem Holds.Qn {S:aO} {B:a0} {σ:ac} {H:Γ} (Δ:Holds S B σ H) (mT:∀r∈σ,zi r) {b:Nat} (Ρ:H.fresh b):¬B.has b:=λ⟨N,cK⟩=>by
 obtain⟨id,cb⟩:=List.getElem?_of_mem cK;have aN:id<σ.length:=by rw[<-Δ.len];exact(b0.1 cb).1
 have μ:=a6 aN;obtain⟨t,k,l,e⟩:=mT _ (cy μ);rw[e] at μ;exact Δ.o1 μ trivial cb Ρ
def vH (s:aU) (F:List Found) (cell:Int) (lower:Bool):List Int×Int:=
 if(ja s cell F).2.2≠0 then([],(ja s cell F).2.2)
 else match (lM s.az.length 0).find? (sx s F cell.toNat lower) with
 | some l=>(l.map λn:Nat=>(n:Int),0)
 | none=>([],11)
abbrev pw:Row:=.cells 29 1 [.sl true 0 []]
abbrev px:Row:=.cells 38 1 [I 0]
abbrev zl (s:aU) (F:List Found) (cell:Int) (lower:Bool):ab:=[(3,.au [aY s.ar,aX s.az,bO s.cells]),(4,.au [I cell]),(5,.au [ba lower]),(6,.ak 0 1 0 0),(7,.ak 1 1 0 0),(8,.au [aY s.ar,aX s.az,bO s.cells]),(9,.au [cL F])]
section
variable {Q:Value->Prop} {mn:Bool} {x:hz} {c:Frame} {rest:List Frame} {fJ S:aO} {B:a0} {et H:Γ} {σ:ac} {res:List Int×Int} {l:List Int} {fK:Int} {e:Bool} {kk:Nat} {b:Frame} {t:Array Value} {k:List Item} {env:ab}
theorem Qo (δ:Seq x) (mO:wZ Tryz.prog Q mn x c rest fJ [] et [] (λa s=>dD a (.bj [bD I 1 res.1,I res.2])/\s=[]) (λ_ _=>False)) (bR:b.fn=28) (ht:b.kind=.normal) (e6:b.defers=[]) (cν:b.mode=.returning)
  (he:Ext fJ [] et S B H) (Δ:Holds S B σ H) (ξ:dB S B σ env b.tmps) (bf:a' env 6=.ak 0 1 0 0) (hx:a' env 7=.ak 1 1 0 0) (cξ:σ[0]?=some (.cells 29 1 [.sl e kk (l.map I)])) (cο:σ[1]?=some (.cells 38 1 [I fK])) (fs:res=(l,fK)) (ψ:l≠[]->kk=1):aV Tryz.prog Q mn x b (c::rest) H:=by
 subst fs;refine aV.back δ cν e6 (.inl ht) (fn:=Tryz.f28) (by rw[bR];exact Tryz.func28) ?_;refine χ.mono (λv iF ⟨ju,kK,fy,v',ax,uE⟩=>?_) (λ_ _ h=>h) _ (EC Φ (a:=.bj [.sl e kk (l.map I),I fK]) (show qZ bm [.cell 6 29,.cell 7 38] env σ=some (.bj [.sl e kk (l.map I),I fK]) by simp[qZ,tu,yJ,bf,hx,cξ,cο,tt,iU.agg,EB]) Δ ξ);obtain⟨U,γ⟩:=ax.close (h:=0) (λid r cb=>J);simp only[List.take_zero] at U γ;have μ:aA (ju.close kK σ iF 0) [] [] (.bj [.sl e kk (l.map I),I fK]) v:=by
  have hb:aG 0 (.bj [.sl e kk (l.map I),I fK]):=η
  have:=(uE.later (b8.refl ju kK σ)).any hb [] [];exact this.later ⟨λb o v hv=>γ.dy _ _ _ hv,λid r h=>by simp at h⟩
 have Qp:=he.trans (fy.trans γ);refine mO.ret _ [] _ [] iF v ⟨?_,rfl⟩ Qp ⟨Qp.dy,λid r h=>by simp at h⟩ U μ;refine .bj (.cons ?_ (.cons (.refl _) .nil));by_cases π:l=[]
 ·subst π;exact .nil
 ·rw[ψ π];exact .ex
end
noncomputable abbrev J4 (vs:Array Value):Frame:=Frame.enter Tryz.prog 28 vs .normal
theorem Qq {s:aU} {F:List Found} {cell:Int} (h:(ja s cell F).2.2=0):0<=cell/\cell<s.cells.length/\ja s cell F=(s,F,0):=by
 unfold ja at h ⊢;split at h
 ·rename_i U;simp at h;exact absurd h U
 ·split at h
  ·simp at h
  ·rename_i U γ;rw[if_neg U,if_neg γ];refine⟨J,J,?_⟩;unfold fa at h ⊢;rw[if_neg U] at h ⊢;split at h
   ·simp at h
   ·rename_i ο;rw[if_neg ο]
section
variable {Q:Value->Prop} {mn:Bool} {c:Frame} {rest:List Frame}
theorem cπ (s:aU) (ξ:s.small) (F:List Found) (eI:qa s F) (cK:Fg s F) (cell:Int) (lower:Bool) (Qr:s.az.length<=4) :
  aB Tryz.prog 28 [fu s,I cell,ba lower] (.bj [bD I 1 (vH s F cell lower).1,I (vH s F cell lower).2]):=by
 refine⟨⟨_,Tryz.func28,rfl,rfl⟩,λQ mn x c rest fJ eV et vs δ s9 J5 mO=>?_⟩;obtain rfl:eV=[]:=dO.1 s9.len;rw[q5 (body:=Tryz.f28.body.getD .skip) Tryz.func28 rfl];refine V.here (x:=x) (m:=0) (nt:=35) (S:=fJ) (B:=[]) (H:=et) (σ:=[]) (env:=entry 0 [fu s,I cell,ba lower]) ?_ (gd.enter s9 J5 (Nat.le_refl _) η);refine V.gj δ rfl ?_;simp only[Tryz.f28,Option.getD_some]
 repeat apply ae
 refine dj (A:=[6,7]) Φ λΚ κ=>bp ?_;apply κ;refine da ?_;refine dj (A:=[8,9]) Φ λΚ κ=>bp ?_;refine aB.d (OM s ξ cell F eI) (bp ?_);apply κ;by_cases b:(ja s cell F).2.2=0
 case neg=>
  have e:vH s F cell lower=([],(ja s cell F).2.2):=by unfold vH;rw[if_pos b]
  rw[e] at mO;generalize (ja s cell F).2.2=fK at b mO ⊢;refine Η ?_;refine aC (by simp[b]) ?_;refine Η ?_;refine W.stop ?_;intro ju kK iF t5 lq mf;refine aV.ret δ rfl rfl ?_;exact Qo δ mO rfl rfl rfl rfl lq.ext mf.holds mf.cH rfl rfl rfl rfl rfl (λh=>absurd rfl h)
 obtain⟨iS,lE,e⟩:=Qq b;obtain⟨n,rfl⟩:∃n:Nat,cell=n:=⟨cell.toNat,J⟩;have b3:n<s.cells.length:=J;have Ε:vH s F n lower=match (lM s.az.length 0).find? (sx s F n lower) with|some l=>(l.map λn:Nat=>(n:Int),0)|none=>([],11):=by
  unfold vH;rw[if_neg (by simpa using b)];rfl
 rw[e];refine W.fix (id:=3) (σ':=[pw,px,.cells 98 3 [fu s]]) (Nat.zero_le _) rfl η (λid q cb Χ=>by
  match id,cb,Χ with
  | 0,_,Χ=>simp at Χ;subst Χ;simp[fC,θ.cells]
  | 1,_,Χ=>simp at Χ;subst Χ;simp[fC,θ.cells]
  | 2,_,Χ=>simp at Χ;subst Χ;simp[fC,θ.cells]) rfl [(3,.au [aY s.ar,aX s.az,bO s.cells]),(4,.au [I n]),(5,.au [ba lower]),(6,.ak 0 1 0 0),(7,.ak 1 1 0 0),(8,.ak 2 1 0 0),(9,.au [cL F]),(10,I 0)] (by simp[l7]) ?_
 refine W.fix (id:=2) (σ':=[pw,px]) (Nat.zero_le _) rfl η (λid q cb Χ=>by
  match id,cb,Χ with
  | 0,_,Χ=>simp at Χ;subst Χ;simp[fC,θ.cells]
  | 1,_,Χ=>simp at Χ;subst Χ;simp[fC,θ.cells]) rfl ((10,I 0)::zl s F n lower) (by simp[l7]) ?_
 refine Η ?_;refine ay rfl ?_;refine Η ?_;refine bc λΚ κ=>?_;refine aB.d (cμ s.az.length) (bp ?_);apply κ
 repeat apply ae
 refine W.forget ((25,.fn (.func 126) [] [.au [I s.az.length]])::zl s F n lower) η ?_;refine W.stop ?_;intro bS b1 H1 t1 q8 nI;have y2:∀r∈[pw,px],zi r:=λr μ=>by
  simp only[List.mem_cons,List.not_mem_nil,or_false] at μ;rcases μ with rfl|rfl<;>exact⟨_,_,_,rfl⟩
 have a9:=nI.cH 25;simp only[a',if_true] at a9;obtain⟨Ο,BW⟩:=aF (t1.getD 25 undef);rw[<-BW] at a9;cases a9 with
 | fn w1 nO aa ai aZ cn=>
 have cρ:w1=#[]:=Array.eq_empty_of_size_eq_zero (by rw[<-aa];rfl);subst cρ;refine aV.rangeFunc δ rfl rfl (fo:=.tmp 25) BW.symm ⟨_,Tryz.func126,rfl,rfl⟩ λr1 L U γ=>?_;have J6:¬b1.has r1:=nI.holds.Qn y2 U;have F1:=nI.holds.bQ (y:=.deferred (some [])) J6;have F2:Ext bS b1 H1 bS b1 (H1.bQ r1 (.deferred (some []))):=Ext.Qm U;have BX:(H1.bQ r1 (.deferred (some []))).obj r1=some (.deferred (some [])):=by simp[Γ.bQ]
 have cς:et.fresh r1:=q8.ext.grow _ U
 have F3:et.fresh L:=q8.ext.grow _ (F2.grow _ γ);generalize mρ:H1.bQ r1 (.deferred (some []))=Qs at γ F1 F2 BX;have F4:r1≠L:=λe=>by rw[e,γ.2.2.1] at BX;cases BX
 have Qt:¬b1.has L:=F1.Qn y2 γ
 have Qu:∀(S:aO) (B:a0) (H:Γ) (σ:ac),ff 2 bS b1 Qs [pw,px] S B H σ->b8 bS S b1 B [pw,px] σ:=λS B H σ ν=>ν.all F1 η
 have Qv:∀(vI:Frame) (S:aO) (B:a0) (H:Γ) (σ:ac) (env:ab) (l:List Int) (fK:Int) (e:Bool) (kk:Nat),vI.fn=28->vI.kind=.normal->vI.mode=.returning->vI.defers=[⟨.collected r1,#[]⟩]->Ext fJ [] et S B H->Holds S B σ H->¬B.has r1->H.obj r1=some (.deferred (some []))->
   dB S B σ env vI.tmps->a' env 6=.ak 0 1 0 0->a' env 7=.ak 1 1 0 0->σ[0]?=some (.cells 29 1 [.sl e kk (l.map I)])->σ[1]?=some (.cells 38 1 [I fK])->vH s F n lower=(l,fK)->(l≠[]->kk=1)->aV Tryz.prog Q mn x vI (c::rest) H:=
  λvI S B H σ env l fK e kk e2 dq hU u5 u6 cτ cυ vz cφ cχ cψ cω cΑ cΒ cΓ=>by
  refine aV.collected δ hU u5 vz ?_;exact Qo δ mO (b:={vI with defers:=[]}) e2 dq rfl hU (u6.bQ cς ⟨_,vz⟩) (cτ.bQ cυ) cφ cχ cψ cω cΑ cΒ cΓ
 rw[q5 (body:=Tryz.f126.body.getD .skip) Tryz.func126 rfl];have J7:gg bS b1 [pw,px] ([sK L]++[.au [I s.az.length]]) (#[.func (.yield L) #[] #[]]++nO):=by
  refine gg.append ⟨rfl,λi a v e2 dq=>?_⟩ ⟨ai,cn⟩
  match i with
  | 0=>simp at e2 dq;subst e2;subst dq;exact .fn #[] #[] rfl rfl (λi a v hi=>by simp at hi) (λi a v hi=>by simp at hi)
  | i+1=>simp at e2
 refine bΦ (o:=⟨bS,b1,Qs,[pw,px],2⟩) (L:=L) (Fnd:=λrem=>(lM s.az.length 0).find? (sx s F n lower)=rem.find? (sx s F n lower)) δ (Nat.le_trans Qr br) ?_ rfl bS b1 _ _ (ff.of (Ext.Qm γ) (b8.refl ..)) (gd.enter (F1.bQ Qt) J7 (Nat.le_refl _) η) Qt (by simp[Γ.bQ];rfl);refine⟨rfl,by simp[fC,θ.cells],by simp[fC,θ.cells],rfl,λl rem F5 cΔ aN S B H ws mς ν Δ ma ad hv cΕ cΖ=>?_,λF5 S B H ν Δ ma ad=>?_⟩
 ·obtain⟨J8,yi⟩:=rl ν.ext J6 BX;have cΗ:=Qu _ _ _ _ ν;have qc:=nI.cH.later cΗ;have BY:Ext fJ [] et S B H:=q8.ext.trans (F2.trans ν.ext);obtain⟨w0,rfl⟩:∃w0,ws=#[w0]:=by
   have U:=hv.1;clear hv;obtain⟨wl⟩:=ws
   match wl,U with
   | [w0],_=>exact⟨w0,rfl⟩
  have cΘ:((#[26]:Array Tmp).zip #[w0]).foldl (λtmps (t,a)=>tmps.setIfInBounds t a) t1=t1.setIfInBounds 26 w0:=η;change aV Tryz.prog Q mn x (Frame.round L 28 (((#[26]:Array Tmp).zip #[w0]).foldl (λtmps (t,a)=>tmps.setIfInBounds t a) t1) _ _ .normal) _ _;rw[cΘ];have FD:aA S B [pw,px,fS l] (.ms 2 l.length 0 l.length) w0:=hv.2 0 _ _ rfl rfl;have cΙ:l.length<2 ^ 30:=J;have BV:dB S B [pw,px,fS l] ((26,.ms 2 l.length 0 l.length)::zl s F n lower) (t1.setIfInBounds 26 w0):=xF (dB.put qc (d:=26) (by rw[nI.size];omega) FD) η;refine V.here (b:=Frame.round L 28 t1 .skip .skip .normal) (t:=t1.setIfInBounds 26 w0) (m:=3) (nt:=35) (S:=S) (B:=B) (H:=H) (σ:=[pw,px,fS l]) (env:=(26,.ms 2 l.length 0 l.length)::zl s F n lower) ?_ ⟨Δ,BV,Eq.trans (Array.size_setIfInBounds ..) nI.size,Nat.le_refl _⟩;refine V.gj δ rfl ?_;refine Η ?_;refine W.stop ?_;intro lI lJ j4 t3 ik fv;obtain⟨BZ,zm⟩:=rl ik.ext ma ad;obtain⟨cΚ,cΜ⟩:=rl ik.ext J8 yi;refine aV.beginRound δ rfl rfl zm rfl ?_;refine V.here (b:=Frame.round L 28 t1 .skip .skip .normal) (m:=3) (nt:=35) ?_ ⟨fv.holds.bQ BZ,fv.cH,fv.size,fv.rows⟩;refine V.gj δ rfl ?_;refine bc λΚ κ=>?_;have c0:aG 0 (fu s):=η;have qU:aG 0 (cL F):=η;have ib:iY (fS l):=sn (f:=λn:Nat=>I n) λx=>by simp[θ.cells]
  refine af.one (as0:=[fu s,cL F,I n,ba lower,.ms 0 l.length 0 l.length]) (Zq s ξ F cK n b3 lower l (Nat.le_trans cΔ Qr) aN) 2 rfl ib ib (λa ν=>by
   simp only[List.mem_cons,List.not_mem_nil,or_false] at ν;rcases ν with rfl|rfl|rfl|rfl|rfl
   ·exact c0.jN 1
   ·exact qU.jN 1
   ·exact(aG.z _).jN 1
   ·exact(aG.z _).jN 1
   ·exact mW.2 J) ((aG.z _).jN 1) (by simp[mX,pe,c0.eg [2],qU.eg [2]]) ?_
  simp[pe];(repeat (rw[ah];simp));apply κ;have J9:b8 S lI B lJ [pw,px,fS l] [pw,px,fS l]:=ik.all Δ (Nat.le_refl _);have B0:=λy=>(ν.ext.trans ik.ext).bQ γ (y:=y) ⟨_,zm⟩;have cΝ:=λy=>(BY.trans ik.ext).bQ F3 (y:=y) ⟨_,zm⟩;cases Qw:sx s F n lower l
  ·refine ay rfl ?_
   repeat apply ae
   refine W.stop ?_;intro ju kK iF t5 lq mf;obtain⟨B1,B2⟩:=rl lq.ext BZ (show(j4.bQ L _).obj L=some (.loop _) by simp[Γ.bQ];rfl);have F6:=lq.all (fv.holds.bQ BZ) (Nat.le_refl _);refine aV.endRound δ rfl rfl rfl B2 (jump:=none) (.inl ⟨rfl,rfl⟩) (cΕ (by rw[F5,List.find?_cons,Qw]) ju kK _ ⟨((B0 _).trans lq.ext).bQ γ ⟨_,B2⟩,?_⟩ (J9.trans F6) (mf.holds.bQ B1) B1 (by simp[Γ.bQ]));exact ν.later.trans (J9.trans F6)
  ·refine aC rfl ?_;obtain⟨z,Ψ⟩:=aF (l.map λn:Nat=>(n:Int));have cΞ:fS l=.cells 3 1 (z.map I):=by rw[Ψ,List.map_map];rfl
   have l3:z.length=l.length:=by rw[Ψ,List.length_map]
   have Qx:=Zj z (by rw[l3];exact cΙ);rw[l3,<-cΞ] at Qx;have Qy:∀(e:Bool) (k:Nat),aG 0 (.sl e k (z.map I)):=λe k=>η;refine bc λΚ κ=>?_;refine af.E4 (as0:=[.ms 0 l.length 0 l.length]) Qx 2 rfl ib (by simp[mW]) (by simp[mX]) (λa bs ao=>?_);obtain⟨⟨e,kk,rfl,sf⟩,rfl⟩:=ao;refine⟨fS l,rfl,ib,(Qy e kk).jN 1,?_⟩;rw[(Qy e kk).eg [2]];simp;(repeat (rw[ah];simp));apply κ;refine W.stop ?_;intro ju kK iF t5 lq mf;obtain⟨B1,B2⟩:=rl lq.ext BZ (show(j4.bQ L _).obj L=some (.loop _) by simp[Γ.bQ];rfl);obtain⟨Qz,cΟ⟩:=rl lq.ext cΚ (show(j4.bQ L _).obj r1=some (.deferred (some [])) by simp[Γ.bQ,F4,cΜ]);have F6:=lq.all (fv.holds.bQ BZ) (Nat.le_refl _);refine aV.endRound δ rfl rfl rfl B2 (jump:=some .ret) (.inr (.inl ⟨rfl,_,rfl⟩)) (cΖ _ λmτ mυ QA=>?_);obtain⟨e2,dq⟩:=(mf.holds.bQ (y:=.loop _) B1).th (λb hb=>QA.th hb) QA.grow;obtain⟨cΡ,QB⟩:=rl dq B1 (show(iF.bQ L _).obj L=some (.loop _) by simp[Γ.bQ];rfl);obtain⟨_,cΤ⟩:=rl dq Qz (show(iF.bQ L _).obj r1=some (.deferred (some [])) by simp[Γ.bQ,F4,cΟ]);refine aV.Pb (b:={J4 vs with defers:=[⟨.collected r1,#[]⟩]}) (t:=t1) δ rfl QB η ?_;refine aV.ret (b:={J4 vs with defers:=[⟨.collected r1,#[]⟩]}) δ rfl rfl ?_;refine Qv _ ju kK _ _ (zl s F n lower) z 0 e kk rfl rfl rfl rfl ((((((cΝ _).trans lq.ext).bQ F3 ⟨_,B2⟩)).trans dq).bQ F3 ⟨_,QB⟩) (e2.bQ cΡ) Qz (by simp[Γ.bQ,F4,cΤ]) (xF ((qc.later (J9.trans F6))) η) rfl rfl rfl rfl ?_ sf;rw[Ε,F5,List.find?_cons,Qw,Ψ]
 ·obtain⟨J8,yi⟩:=rl ν.ext J6 BX;have qc:=nI.cH.later (Qu _ _ _ _ ν);have pP:Ext fJ [] et S B H:=q8.ext.trans (F2.trans ν.ext);refine aV.Pb (b:={J4 vs with defers:=[⟨.collected r1,#[]⟩]}) (t:=t1) δ rfl ad η ?_;refine V.here (m:=0) (nt:=35) (S:=S) (B:=B) (σ:=[pw,px]) (env:=zl s F n lower) ?_ ⟨Δ.bQ ma,xF qc η,nI.size,Nat.zero_le _⟩;refine V.gj δ rfl ?_;simp only[Option.map_none,Option.toList_none,List.nil_append];refine Η ?_;refine W.stop ?_;intro ju kK iF t5 lq mf;have cΥ:∀y,(H.bQ L y).obj r1=some (.deferred (some [])):=λy=>by simp[Γ.bQ,F4,yi]
  obtain⟨k1,bT⟩:=rl lq.ext J8 (cΥ _);refine aV.ret δ rfl rfl ?_;refine Qv _ ju kK iF _ _ [] 11 true 0 rfl rfl rfl rfl ((pP.bQ F3 ⟨_,ad⟩).trans lq.ext) mf.holds k1 bT mf.cH rfl rfl rfl rfl ?_ (λh=>absurd rfl h);rw[Ε,F5];rfl
end
end Go.TL
namespace Go.TL
open Go.Proofs
variable [bq]
def fN:aU:=⟨[⟨⟨#[98]⟩,9⟩,⟨⟨#[99]⟩,4⟩,⟨⟨#[100]⟩,6⟩,⟨⟨#[105]⟩,48⟩,⟨⟨#[111]⟩,12⟩],[[1,2],[0],[0,1,2]],[[⟨0,4,59⟩,⟨1,8,3⟩],[⟨0,0,63⟩,⟨1,4,8⟩]]⟩
theorem B3:aB Tryz.prog 72 [] (fu fN):=by
 refine af.body Φ Tryz.func72 rfl rfl Tryz.ntmps72 rfl rfl η ?_
 repeat apply ae
 refine dj (A:=[0]) Φ λΚ κ=>bp ?_;apply κ
 repeat apply ae
 refine bc λΚ κ=>?_;apply κ;refine W.fix (id:=0) (σ':=[]) (Nat.zero_le _) rfl η η rfl [(0,.au [.sl true 2 [e5 ⟨⟨#[98]⟩,9⟩,e5 ⟨⟨#[99]⟩,4⟩,e5 ⟨⟨#[100]⟩,6⟩,e5 ⟨⟨#[105]⟩,48⟩,e5 ⟨⟨#[111]⟩,12⟩],.sl true 1 [gw [1,2],gw [0],gw [0,1,2]],.sl true 1 [.sl true 3 [dX ⟨0,4,59⟩,dX ⟨1,8,3⟩],.sl true 3 [dX ⟨0,0,63⟩,dX ⟨1,4,8⟩]]])] η ?_;refine W.rt ?_;refine .a3 (.cons .ex (.cons ?_ (.cons ?_ .nil)))
 ·exact .map (l:=[[1,2],[0],[0,1,2]]) (f:=gw) λx _=>.one .ex rfl rfl
 ·exact .map (l:=[[⟨0,4,59⟩,⟨1,8,3⟩],[⟨0,0,63⟩,⟨1,4,8⟩]]) (f:=λl:List cZ=>.sl true 3 (l.map dX)) λx _=>.one .ex rfl rfl
end Go.TL
namespace Go.TL
open Go.Conc Go.Proofs
open Go.ConcN (sumTo upd sumTo_upd upd_ne upd_same sumTo_congr le_sumTo)
variable [bq]
section
variable {P:Program} {Q:Value->Prop} {mn:Bool} {y:a7} {f f' b:Frame} {cs cs':List Frame} {H:Γ} {t:Array Value} {k:List Item} {ops:Array Oper} {i:Nat} {rest:List Nat} {op:Oper}
theorem cG.quiet (δ:fh y) (ξ:∀w,stepG P mn (Go.Conc.G f cs) w=.go (Go.Conc.G f' cs') w #[]) (h:cG P Q mn y f' cs' H):cG P Q mn y f cs H:=
 Quiet.goes (.cons ⟨rfl,rfl⟩ ξ (.nil _)) δ ⟨rfl,rfl⟩ h
theorem cG.next (δ:fh y) (hb:b.mode=.run) {id:Nat} {J':Array Oper} {c:Code} (h:cG P Q mn y (aD b t (.inRegion J' (List.range J'.size)::.code c::k)) cs H):cG P Q mn y (aD b t (.inRegion ops []::.code (.seq (.region id J' false) c)::k)) cs H:=
 .quiet δ (λw=>(jY hb w).trans rfl) (.quiet δ (λw=>(jY hb w).trans rfl) (.quiet δ (λw=>(jY hb w).trans rfl) h))
theorem cΦ {ty:TypeId} {inf:TypeInfo} {z:Value} (hi:P.info? ty=some inf) (Ψ:inf.zero=some z) (w:World) :
  (Instr.alloc ty true (.tuple #[])).run P w=.ok (ptr w.heap.size 0) (w.alloc (.cells z.cells ty (0,0)))/\∀es,(Instr.alloc ty true (.tuple #[])).events P w es=es:=by
 constructor
 ·simp[Instr.alloc,zeroValue,typeInfo,newVar,newRow,hi,Ψ,Result.andThen]
 ·intro es;simp[Instr.alloc,zeroValue,typeInfo,newVar,newRow,hi,Ψ,Result.andThen,Result.evThen]
theorem cG.Ka {ty:TypeId} {inf:TypeInfo} {z:Value} (eE:y.rel=false) (bY:nP b ops i op) (Τ:op.op=.alloc ty) (Ω:op.guard=none) (hi:P.info? ty=some inf) (Ψ:inf.zero=some z)
  (h:∀r,H.fresh r->(∀ag v,y.aR ag=some v->ag<r)->cG P Q mn {y with aR:=upd y.aR r (some (z.cells,ty))} (aD b (put op t (ptr r 0)) (.inRegion ops rest::k)) cs H):cG P Q mn y (aD b t (.inRegion ops (i::rest)::k)) cs H:=by
 refine Goes.step (fh.ok (.inl eE)) (.inr ⟨⟨rfl,rfl⟩,.inl λw Ρ hv=>?_⟩);obtain⟨r1,r2⟩:=cΦ (P:=P) hi Ψ w;have hw:Region.wanted op (yielded ops t)=true:=by unfold Region.wanted;rw[Ω]
 have An:stepG P mn (Go.Conc.G (aD b t (.inRegion ops (i::rest)::k)) cs) w=.go (Go.Conc.G (aD b (put op t (ptr w.heap.size 0)) (.inRegion ops rest::k)) cs) (w.alloc (.cells z.cells ty (0,0))) #[]:=by
  have e:execOp (bt t) op=(do pure (.value (<-Instr.alloc ty true (.tuple #[])))):=by unfold execOp;rw[Τ]
  rw[hj bY.run bY.ro,hj bY.run bY.ro,<-vu];have μ:(execOp (⟨t,b.defers⟩:_root_.Go.Act).eval op).run P w=.ok (.value (ptr w.heap.size 0)) (w.alloc (.cells z.cells ty (0,0))):=by rw[m3,e];simp[r1,Result.andThen]
  have he:(execOp (⟨t,b.defers⟩:_root_.Go.Act).eval op).events P w #[]=#[]:=by rw[m3,e];simp[r1,r2,Result.evThen]
  rw[stepG_value bY.op hw bY.kd μ];unfold listed;rw[he,seen_none]
 rw[An];have hu:=(ej.start Ρ).row z.cells ty;have B4:Γ.fresh H w.heap.size:=Ρ.fresh;have kZ:Sub H (H.dS w.heap.size z.cells ty):=by
  refine⟨λag o v p hb=>⟨p,?_,id⟩,λag x hb=>?_,λag x hb=>hb⟩
  ·have:ag≠w.heap.size:=λe=>by rw[e,B4.1 o] at hb;cases hb
   simpa[Γ.dS,this] using hb
  ·have:ag≠w.heap.size:=λe=>by rw[e,B4.2.1] at hb;cases hb
   simpa[Γ.dS,this] using hb
 have aN:∀ag v,y.aR ag=some v->ag<w.heap.size:=λag v hb=>by
  have:=hv ag v.1 v.2 hb;exact(Array.getElem?_eq_some_iff.1 this).1
 refine⟨H,upd y.aR w.heap.size (some (z.cells,ty)),⟨rfl,rfl⟩,hu.keeps,kZ.fits hu.fit,λag c' t' hb=>?_,⟨λag o v p hb=>.inr ⟨v,p,hb,id⟩,λag hb=>.inr hb⟩,λag c' hb=>?_,λe he=>by simp at he,λag c' _ _ e he=>by simp at he,h _ B4 aN⟩
 ·by_cases e:ag=w.heap.size
  ·subst e;rw[upd_same] at hb;cases hb;exact Dq
  ·rw[upd_ne _ _ e] at hb;have U:=hv ag c' t' hb;have γ:=aN ag _ hb;show(w.heap.push _)[ag]?=_;rw[Array.getElem?_push_lt γ];rw[fw γ] at U;exact U
 ·by_cases e:ag=w.heap.size
  ·exact .inr ⟨Nat.le_of_eq e.symm,⟨λo ⟨x,δ⟩=>(by rw[e,B4.1 o] at δ;cases δ),λ⟨x,δ⟩=>(by rw[e,B4.2.2.1] at δ;cases δ)⟩⟩
  ·rw[upd_ne _ _ e] at hb;exact .inl hb
theorem cΧ {B:Type} {s:Nat}:upd (λ_=>(none:Option B)) s none=λ_=>none:=by
 funext i
 by_cases e:i=s
 ·subst e;exact upd_same ..
 ·exact upd_ne _ _ e
theorem cG.group {sp:Spec} {s m o:Nat} {ty Kb B5:TypeId} {c:Array Value} (eE:y.rel=false) (gn:y.aR=λ_=>none) (s7:m<s) (Kc:s<o) (fQ:sp.a4=some m) (yB:H.fresh o) (cV:sp.av [] (Γ.empty.dS o c B5))
  (h:cG P Q mn {y with tok:=upd y.tok s (.par 0 0 .add),spec:=upd y.spec s (some sp),view:=upd y.view s none} f cs H) :
  cG P Q mn {y with aR:=upd (upd (upd y.aR m (some (#[.int .i32 0,.int .u32 0],Kb))) s (some (#[.int .u64 0,.int .u32 0],ty))) o (some (c,B5))} f cs H:=by
 have iy:s≠o:=Nat.ne_of_lt Kc
 have gD:m≠o:=J
 have Dg:m≠s:=Nat.ne_of_lt s7;refine Goes.step (fh.ok (.inl eE)) (.inr ⟨⟨rfl,rfl⟩,.inr (.inr (.inr (.inr (.inr (.inr (.inr (.inr (.inr (.inr (.inl ⟨o,c,B5,upd_same ..,?_⟩))))))))))⟩);refine Goes.step (fh.ok (.inl eE)) (.inr ⟨⟨rfl,rfl⟩,.inr (.inr (.inr (.inr (.inr (.inr (.inr (.inr (.inr (.inr (.inr ⟨s,sp,ty,H,Γ.empty.dS o c B5,?_,λck dx=>?_,eE,?_,λ_=>cV,?_⟩))))))))))⟩)
 ·show upd (upd _ o _) o none s=_;rw[upd_ne _ _ iy,upd_ne _ _ iy,upd_same]
 ·rw[fQ] at dx;cases dx;refine⟨Dg,Kb,?_⟩;show upd (upd _ o _) o none m=_;rw[upd_ne _ _ gD,upd_ne _ _ gD,upd_ne _ _ Dg,upd_same]
 ·refine⟨⟨λag q v p hb=>⟨p,?_,id⟩,λag x hb=>?_,λag x hb=>hb⟩,⟨λag q v p hb=>⟨p,?_,id⟩,λag x hb=>?_,λag x hb=>(by cases hb)⟩,⟨λag q ⟨v,hv⟩ ⟨x,δ⟩=>?_,λag q ⟨v,hv⟩ ⟨x,δ⟩=>?_,λag _ ⟨x,δ⟩=>(by cases δ)⟩⟩
  ·have:ag≠o:=λe=>by rw[e,yB.1 q] at hb;cases hb
   simpa[this] using hb
  ·have:ag≠o:=λe=>by rw[e,yB.2.1] at hb;cases hb
   simpa[this] using hb
  ·by_cases e:ag=o
   ·simpa[Γ.dS,e] using hb
   ·simp[Γ.dS,e,Γ.empty] at hb
  ·by_cases e:ag=o
   ·simpa[Γ.dS,e] using hb
   ·simp[Γ.dS,e,Γ.empty] at hb
  ·by_cases e:ag=o
   ·rw[e,yB.1 q] at hv;cases hv
   ·simp[Γ.dS,e,Γ.empty] at δ
  ·by_cases e:ag=o
   ·rw[e,yB.1 q] at δ;cases δ
   ·simp[Γ.dS,e,Γ.empty] at hv
 ·have e:(λag=>if ag=s\/sp.a4=some ag then none else upd (upd (upd (upd y.aR m (some (#[.int .i32 0,.int .u32 0],Kb))) s (some (#[.int .u64 0,.int .u32 0],ty))) o (some (c,B5))) o none ag)=y.aR:=by
   funext ag
   rw[gn];by_cases Ζ:ag=s\/sp.a4=some ag
   ·rw[if_pos Ζ]
   ·rw[if_neg Ζ];rw[fQ] at Ζ;have Ε:ag≠s:=λe=>Ζ (.inl e);have a8:ag≠m:=λe=>Ζ (.inr (by rw[e]));by_cases cR:ag=o
    ·rw[cR,upd_same]
    ·rw[upd_ne _ _ cR,upd_ne _ _ cR,upd_ne _ _ Ε,upd_ne _ _ a8]
  have dh:Goes P Q mn (Go.Conc.G f cs) {y with G:=H,aR:=y.aR,tok:=upd y.tok s (.par 0 0 .add),spec:=upd y.spec s (some sp),view:=upd y.view s none}:=h;rw[<-e] at dh;exact dh
theorem cG.HA {s n p:Nat} {sp:Spec} {g:FuncId} {nO:Array Value} (eE:y.rel=false) (uX:y.deaf=0) (ca:y.spec s=some sp) (Υ:y.tok s=.par n (p+1) .add) (bY:nP b ops i op) (Ω:op.guard=none) {fo:Operand} {eu:Array TypeId} (Τ:op.op=.go ⟨.value fo,#[],eu⟩) (si:op.dst=none)
  (hv:bt t fo=.func (.func g) #[] nO) {S:aO} (Δ:Holds S [] [] H) (U:cG P Q mn {y with tok:=upd y.tok s (.par n p .add),view:=upd y.view s none} (aD b t (.inRegion ops rest::k)) cs (sI S H))
  (γ:Goes P Q false (born P ⟨.fn (.func g) nO,#[]⟩) {bB (m6 s sp) s (.ch (n-(p+1)) .idle .work) none 0 with G:=nX S}):cG P Q mn y (aD b t (.inRegion ops (i::rest)::k)) cs H:=by
 have hw:Region.wanted op (yielded ops t)=true:=by unfold Region.wanted;rw[Ω]
 have An:∀w,stepG P mn (Go.Conc.G (aD b t (.inRegion ops (i::rest)::k)) cs) w=.spawn (Go.Conc.G (aD b t (.inRegion ops rest::k)) cs) (born P ⟨.fn (.func g) nO,#[]⟩) w #[]:=λw=>by
  have e:execOp (bt t) op=(do pure (.spawn (<-Deferred.ofValue (bt t fo) (#[].map (bt t))))):=by unfold execOp;rw[Τ];rfl
  rw[hj bY.run bY.ro,hj bY.run bY.ro];have μ:(execOp (⟨t,b.defers⟩:_root_.Go.Act).eval op).run P w=.ok (.spawn ⟨.fn (.func g) nO,#[]⟩) w:=by rw[m3,e,hv];simp[Deferred.ofValue,Result.andThen]
  have he:(execOp (⟨t,b.defers⟩:_root_.Go.Act).eval op).events P w #[]=#[]:=by rw[m3,e,hv];simp[Deferred.ofValue,Result.andThen,Result.evThen]
  rw[stepG_spawn (a:=⟨t,b.defers⟩) bY.op hw bY.kd μ rfl];have:(⟨t,b.defers⟩:_root_.Go.Act).put op.dst undef=⟨t,b.defers⟩:=by rw[si];rfl
  rw[this];unfold listed;rw[he,seen_none]
 refine Goes.step (fh.ok (.inl eE)) (.inr ⟨⟨rfl,rfl⟩,.inr (.inr (.inr (.inr (.inr (.inr (.inr (.inr (.inl ⟨s,sp,n,p,Go.Conc.G (aD b t (.inRegion ops rest::k)) cs,born P ⟨.fn (.func g) nO,#[]⟩,sI S H,nX S,ca,Υ,uX,⟨rfl,rfl⟩,⟨rfl,rfl⟩,eE,λw _=>An w,bρ Δ,U,?_⟩))))))))⟩);have e:({bB (m6 s sp) s (.ch (n-(p+1)) .idle .work) none 0 with G:=nX S}:a7)=⟨nX S,λ_=>none,upd (λ_=>.nil) s (.ch (n-(p+1)) .idle .work),upd (λ_=>none) s (some sp),λ_=>none,0,false⟩:=by
  unfold bB;simp only[cΧ]
 rw[<-e];exact γ
end
end Go.TL
namespace Go.TL
open Go.Conc Go.Proofs
open Go.ConcN (sumTo upd sumTo_upd upd_ne upd_same sumTo_congr le_sumTo)
noncomputable def zn:Code:=Tryz.f116.body.getD .skip
noncomputable def QC:Code:=eh [1,1,1,1,0,1,0,0,1,1,0,0,1,1,0,0,1,1,0,0,1] zn
noncomputable abbrev F7 (vs:Array Value):Frame:=Frame.enter Tryz.prog 116 vs .normal
abbrev env0 (s m o:Nat) (eA:aU) (rest:ab):ab:=(5,.z (ptr o 0))::(4,.z (ptr s 0))::(3,.z (ptr m 0))::(1,.au [aY eA.ar,aX eA.az,bO eA.cells])::rest
abbrev zo (s m o:Nat) (eA:aU) (a b:Int) (rest:ab):ab:=(7,.au [I b])::(6,.au [I a])::env0 s m o eA rest
structure F8 (eA:aU) (fd:Nat->Option Found) (pr:Nat->Int×Int) (F:Nat->Found) (N:Nat->Nat):Prop where
 look:∀k,k<3->∀c:bq,@aB c Tryz.prog 143 [fu eA,aK (pr k)] (du (F k))
 many:∀k,k<3->∀c:bq,@aB c Tryz.prog 78 [du (F k),I (-1)] (I (N k))
 fd:∀k,fd k=if k<3/\0<N k then some (F k) else none
theorem F8.nM {eA:aU} {fd:Nat->Option Found} {pr:Nat->Int×Int} {F:Nat->Found} {N:Nat->Nat} (h:F8 eA fd pr F N) (L:List Nat) (Θ:L.Nodup):(L.filterMap fd).length<=3:=by
 have U:L.filterMap fd=(L.filter (· < 3)).filterMap fd:=by
  rw[List.filterMap_filter];congr 1
  funext k
  by_cases e:k<3
  ·simp[e]
  ·simp[e,h.fd k]
 rw[U];refine Nat.le_trans (List.length_filterMap_le ..) ?_;have γ:(L.filter (· < 3)).Nodup:=Θ.filter _;exact ME 3 _ γ λk ψ=>by simpa using (List.mem_filter.1 ψ).2
variable [bq]
theorem V.boxed {P:Program} {Q:Value->Prop} {mn:Bool} {z:hz} {b:Frame} {cs:List Frame} {nt:Nat} {o:Base} {k:List Item} {env:ab} {σ:ac} {ops:Array Oper} {i:Nat} {rest:List Nat} {op:Oper}
  (δ:Seq z) (hb:b.mode=.run) (cv:b.roundOf=none) (Β:ops[i]?=some op) (Ω:op.guard=none) {ty:TypeId} {xG:Operand} (Τ:op.op=.box ty xG) {l:am} (ν:aT env xG=.a3 l) (ea:l.all (θ.bl [])=true) (bx:0<l.length)
  (h:∀(S:aO) (B:a0) (H:Γ) (t:Array Value) (r:Nat) (c:Array Value),ff o.m o.S o.B o.H o.σ S B H σ->gd o.m nt S B H σ env t->H.fresh r->(∃v,(S.lay r c) r 0=some v)->b8 S (S.lay r c) B B σ σ->Ext S B H (S.lay r c) B (H.dS r c ty)->Holds (S.lay r c) B σ (H.dS r c ty)->aA (S.lay r c) B σ (.au l) (ptr r 0)->
   aV P Q mn z (aD b (put op t (ptr r 0)) (.inRegion ops rest::k)) cs (H.dS r c ty)):V P Q mn z b cs nt o (.inRegion ops (i::rest)::k) env σ:=by
 intro S B H t cΨ ω;refine .op δ hb Β (by unfold Region.wanted;rw[Ω]) (.inl cv) ?_;have e:execOp (bt t) op=(do pure (.value (<-Instr.box ty (bt t xG)))):=by unfold execOp;rw[Τ]
 have μ:=mI ω.cH xG;rw[ν] at μ;rw[e];refine χ.bind' ?_;unfold Instr.box;refine χ.bind' ?_;unfold newVar newRow;have QD:=yt (σ:=σ) ea;have cA:=(μ.cells (a:=.a3 l) QD).1;refine χ.bind' ⟨rfl,λr fI=>χ.pure' (χ.pure' (χ.pure' ?_))⟩;obtain⟨U,γ,ο⟩:=ω.holds.lay (c:=(bt t xG).cells) (t:=ty) fI;have aN:0<(bt t xG).cells.size:=by rw[cA];exact bx
 exact h S B H t r _ cΨ ω fI ⟨(bt t xG).cells[0],by simp[aO.lay,aN]⟩ ο γ U (Nq ο (gq.one μ QD))
section
variable {y:a7} {Q:Value->Prop} {mn:Bool} {β s m o n:Nat} {bS:aO} {H1:Γ} {fd:Nat->Option Found} {pr:Nat->Int×Int} {F:Nat->Found} {N:Nat->Nat} {sp:Spec} {eA:aU} {v:Option (Nat×aW)} {vs:Array Value} {cs:List Frame} {k:List Item} {rest:ab}
theorem Kd {a b:Int} (e':pr n=(a,b)) (ε:m5 y s sp) (fQ:sp.a4=some m) (cV:sp.av=xD β bS o fd) (eH:∀k,sp.D k Γ.empty) (hk:sp.top=3) (Θ:n<3) (cF:F8 eA fd pr F N) (q8:∃q v,bS β q=some v) (so:∃q x,H1.aS β q=some x) (μ:∀p∈rest,p.1∉[16,15,7,6,5,4,3,1]/\a' rest p.1=p.2)
  (ψ:V Tryz.prog Q mn (one (bB y s (.par (n+1) 0 .add) none 0)) (F7 vs) cs 23 ⟨bS,[],H1,[],0⟩ k ((6,.au [I a])::env0 s m o eA rest) []) :
  V Tryz.prog Q mn (one (bB y s (.par n 0 .add) v 0)) (F7 vs) cs 23 ⟨bS,[],H1,[],0⟩ (.code QC::k) (zo s m o eA a b rest) []:=by
 letI:bq:=fi;obtain rfl:a=(pr n).1:=by rw[e']
 obtain rfl:b=(pr n).2:=by rw[e']
 have δ:=ε.seq;refine V.gj (δ _ _ _) rfl ?_;simp only[QC,zn,Tryz.f116,Option.getD_some,eh];refine da ?_;refine W.cC (.stop ?_);refine V.call (δ _ _ _) ⟨rfl,rfl,by simp[Frame.enter],rfl⟩ rfl rfl rfl ⟨_,Tryz.func140,rfl,rfl⟩ λS B H t p8 ν ω hv=>?_;obtain rfl:=nQ (l:=[ptr s 0,.int .i64 1]) hv;obtain rfl:B=[]:=dO.1 ω.holds.len;rintro mM rfl;refine aΔ ε J ω.holds λv2 c8 bN ie jX=>?_;rw[jl rfl];have oz:b8 S c8 [] [] [] []:=⟨ie.dy,λid r h=>by simp at h⟩;refine V.here (x:=one _) (m:=0) (nt:=23) (S:=c8) (B:=[]) (σ:=[]) (env:=(15,.z (.tuple #[]))::zo s m o eA (pr n).1 (pr n).2 rest) ?_ ⟨jX,dB.later (dB.put ω.cH (d:=15) (by rw[ω.size];omega) (.z (.tuple #[]))) oz,Eq.trans (Array.size_setIfInBounds ..) ω.size,Nat.zero_le _⟩ _ rfl;refine V.gj (δ _ _ _) rfl ?_;refine W.bL ?_;refine W.cC ?_;refine fM [0] [1] ?_;refine W.stop ?_;intro lI lJ j4 t3 ik fv;obtain rfl:lJ=[]:=dO.1 fv.holds.len;rintro mM rfl;have a9:=fv.cH 16;simp only[a',if_true] at a9;obtain⟨Ο,BW⟩:=aF (t3.getD 16 undef);rw[<-BW] at a9;have Ke:ff 0 bS [] H1 [] lI [] j4 []:=ν.trans ((ff.of ie oz).trans ik);cases a9 with
 | fn w1 w2 aa ai aZ cn=>
  have Ζ:w1=#[]:=Array.eq_empty_of_size_eq_zero (by rw[<-aa];rfl);subst Ζ;obtain⟨l2⟩:=w2
  match l2,ai with
  | [QE,o0,h9,r8,cΩ,dα],_=>
   have vE:QE=ptr s 0:=by have:=cn 0 _ _ rfl rfl;cases this;rfl
   have dβ:cΩ=ptr m 0:=by have:=cn 4 _ _ rfl rfl;cases this;rfl
   have dγ:dα=ptr o 0:=by have:=cn 5 _ _ rfl rfl;cases this;rfl
   subst vE;subst dβ;subst dγ;have J1:gg lI [] [] (JX s m o eA (pr n).1 (pr n).2) (FU s m o o0 h9 r8):=⟨rfl,λi a v U γ=>cn i a v U γ⟩;refine cG.HA (s:=s) (n:=n+1) (p:=0) (sp:=sp) ε.rel rfl ε.spec cm ⟨rfl,rfl,by simp[Frame.enter],rfl⟩ rfl rfl rfl BW.symm (S:=lI) fv.holds ?_ ?_
   ·rw[hJ];have ξ:=bυ fv.holds;have dδ:∀g:θ,∀p∈(6,.au [I (pr n).1])::env0 s m o eA rest,a' ((16,g)::(15,.z (.tuple #[]))::zo s m o eA (pr n).1 (pr n).2 rest) p.1=p.2:=λg p ω=>by
     simp only[env0,List.mem_cons] at ω;rcases ω with rfl|rfl|rfl|rfl|rfl|ω<;>first|rfl|skip
     obtain⟨U,γ⟩:=μ p ω;simp only[List.mem_cons,List.not_mem_nil,or_false,not_or] at U;obtain⟨c1,c2,c3,c4,kE,nA,mL,dε⟩:=U;simp only[a',Ne.symm c1,Ne.symm c2,Ne.symm c3,Ne.symm c4,Ne.symm kE,Ne.symm nA,Ne.symm mL,Ne.symm dε,if_false];exact γ
    refine V.gj (δ (.par (n+1) 0 .add) none 0) rfl (W.bL (W.forget ((6,.au [I (pr n).1])::env0 s m o eA rest) (dδ _) (.stop ψ))) lI [] _ t3 (Ke.trans (ff.of ξ (b8.refl ..))) ⟨bς fv.holds,fv.cH,fv.size,Nat.zero_le _⟩ _ rfl
   ·refine bΚ fQ J cV (eH _) (cF.look n Θ) (cF.many n Θ) ?_ (λL ad=>?_) ?_ (λb q u hu=>?_) J1
    ·show fd n=_;rw[cF.fd n];simp[Θ]
    ·rw[List.length_map];have:=cF.nM L ad;omega
    ·obtain⟨q,u,hu⟩:=q8;exact⟨q,u,Ke.ext.dy _ _ _ hu⟩
    ·obtain⟨iz,QE,FX⟩:=so;rcases Ke.ext.r7 b q u hu with h|⟨N,h⟩|h
     ·exact .inl (by rw[h];simp)
     ·simp at h
     ·exact .inr (JU FX h)
end
end Go.TL
namespace Go.TL
open Go.Conc Go.Proofs
open Go.ConcN (sumTo upd sumTo_upd upd_ne upd_same sumTo_congr le_sumTo)
structure Calm (y:a7):Prop where
 rel:y.rel=false
 aR:y.aR=λ_=>none
 deaf:y.deaf=0
 shut:∀s,gB (y.tok s)
def calm:hz:=Calm
@[reducible] def py:bq:=⟨λx=>x=calm⟩
variable [bq]
def tX (x y:Found):Int:=lH (x.u,x.v) (y.u,y.v)
def pz (x y:Found):Prop:=x.u<y.u\/(x.u=y.u/\x.v<y.v)
theorem dζ (x y:Found):Ξ tX x y=true↔pz x y:=by
 have h:=qf (x.u,x.v) (y.u,y.v)
 have e:Ξ tX x y=Ξ lH (x.u,x.v) (y.u,y.v):=rfl;rw[e,h];simp[pz]
theorem dη:Go.Sort.SWO (Ξ tX) where
 irrefl x:=vl.irrefl (x.u,x.v)
 trans x y z:=vl.trans (x.u,x.v) (y.u,y.v) (z.u,z.v)
 ntrans x y z:=vl.ntrans (x.u,x.v) (y.u,y.v) (z.u,z.v)
instance:Inhabited Found:=⟨⟨0,0,[]⟩⟩
theorem dθ {m:List Found} (h:m.Pairwise pz):∀a∈m,∀b∈m,¬pz a b->¬pz b a->a=b:=by
 induction h with
 | nil=>intro a ν;cases ν
 | cons U γ Α=>
  intro a ν b hb ο Ι;rcases List.mem_cons.1 ν with lb|ew<;>rcases List.mem_cons.1 hb with jE|ec
  ·rw[lb,jE]
  ·exact absurd (lb▸U b ec) ο
  ·exact absurd (jE▸U a ew) Ι
  ·exact Α a ew b ec ο Ι
theorem dι {l m:List Found} (ω:l.Perm m) (hm:m.Pairwise pz):(Go.Sort.insertionSort (Ξ tX) l.toArray 0 l.length).toList=m:=by
 obtain⟨⟨cA,_,Kf⟩,γ⟩:=Go.Sort.insertionSort_holds (lt:=Ξ tX) dη l.toArray 0 l.length (Nat.zero_le _) η;generalize Go.Sort.insertionSort (Ξ tX) l.toArray 0 l.length=d at cA Kf γ;have HX:d.size=l.length:=by simpa using cA
 have Ζ:d.extract 0 l.length=d:=by rw[<-HX];exact Array.extract_size
 have Ε:l.toArray.extract 0 l.length=l.toArray:=by
  simp
 rw[Ζ,Ε] at Kf;have QF:d.toList.Perm m:=Kf.trans ω;have dκ:∀x y,Ξ tX x y=false↔¬pz x y:=λx y=>by rw[<-dζ];simp
 refine List.Perm.eq_of_pairwise (le:=λx y=>¬pz y x) (λa b ν hb ο Ι=>?_) ?_ (hm.imp λ{a b} h k=>?_) QF
 ·exact dθ hm a (QF.mem_iff.1 ν) b hb Ι ο
 ·rw[List.pairwise_iff_getElem];intro i j hi ζ fP;have:=γ i j (Nat.zero_le _) fP (by simpa[HX] using ζ);rw[dκ] at this;rw[getElem!_pos d j (by simpa using ζ),getElem!_pos d i (by simpa using hi)] at this;simpa using this
 ·simp only[pz] at h k;omega
theorem dμ {D:Nat->Γ->Prop} (eH:∀k E,D k E->E=Γ.empty):∀(L:List Nat) (E:Γ),my D L E->E=Γ.empty:=by
 intro L
 induction L with
 | nil=>intro E h;exact h
 | cons k L2 Α=>
  rintro E ⟨qC,qD,U,γ,_,rfl⟩;rw[eH k qC U,Α qD γ];exact Hn _
end Go.TL
namespace Go.TL
open Go.Conc Go.Proofs
open Go.ConcN (sumTo upd sumTo_upd upd_ne upd_same sumTo_congr le_sumTo)
abbrev F9:θ:=.fn (.func 148) [] []
theorem dν [bq] (x y:Found):ef Tryz.prog F9 [du x,du y] (I (tX x y)):=λσ=>(XZ x y).c (b2.refl _) η η ⟨rfl,rfl⟩
section
variable {y:a7} {Q:Value->Prop} {mn:Bool} {β s m o:Nat} {fJ bS:aO} {et H1:Γ} {fd:Nat->Option Found} {sp:Spec} {eA:aU} {v:Option (Nat×aW)} {vs:Array Value} {c:Frame} {cs:List Frame}
theorem dξ (ε:m5 y s sp) (fQ:sp.a4=some m) (cV:sp.av=xD β bS o fd) (eH:∀k E,sp.D k E->E=Γ.empty) (Kg:∀L:List Nat,L.Nodup->(L.filterMap fd).length<=3) {mg:List Found} (Kh:(List.range 3).filterMap fd=mg) (vJ:mg.Pairwise pz)
  (Ki:∀v,Calm (bB y s (.par 3 0 .bH) v 0)) (mO:wZ Tryz.prog Q mn calm c cs fJ [] et [] (λa s=>dD a (cL mg)/\s=[]) (λ_ _=>False)) (BY:Ext fJ [] et bS [] H1) (Kj:et.fresh β) :
  V Tryz.prog Q mn (one (bB y s (.par 3 0 .add) v 0)) (F7 vs) (c::cs) 23 ⟨bS,[],H1,[],0⟩ [.code (eh [1,1,1,1,1] zn)] (env0 s m o eA []) []:=by
 letI:bq:=fi;have δ:=ε.seq;refine V.gj (δ _ _ _) rfl ?_;simp only[zn,Tryz.f116,Option.getD_some,eh];refine da ?_;refine W.cC (.stop ?_);refine V.call (δ _ _ _) ⟨rfl,rfl,by simp[Frame.enter],rfl⟩ rfl rfl rfl ⟨_,Tryz.func146,rfl,rfl⟩ λS B H t p8 ν ω hv=>?_;obtain rfl:=nQ (l:=[ptr s 0]) hv;obtain rfl:B=[]:=dO.1 ω.holds.len;rintro mM rfl;refine aΜ ε ω.holds (n:=3) λaJ H' gL fZ hq e0 he Δ ML dο dπ cK a1 bb cP hw v2 c8 bN ie=>?_;rw[jl rfl];obtain rfl:=dμ eH gL hq dο;rw[Hn] at ie;obtain⟨ky,QG⟩:=dπ (by rw[fQ];simp);rw[cV] at QG;obtain⟨hi,iq,sJ,xE,dV⟩:=QG;obtain⟨w,f1,f2,f3⟩:=hw;obtain⟨G,di⟩:=aF (fZ.filterMap fd);have Kk:G.Perm mg:=by rw[di,<-Kh];exact ky.filterMap _
 have mφ:G.length<=3:=by rw[di];exact Kg fZ (ky.nodup_iff.2 List.nodup_range)
 rw[<-di] at xE;obtain⟨JZ,l1,l2⟩:=P' Δ xE bb ⟨w,f1,f3⟩ (FT _);have jR:=bψ (BY.trans (ν.ext.trans he)) (ν.ext.trans he).dy Kj hi Δ xE (FT _);obtain⟨e2,dq⟩:=JZ.th (λb hb=>ie.th hb) ie.grow;have qm:=jR.trans dq;have ax:t.getD 5 undef=ptr o 0:=by
  have:=ω.cH 5;simp only[a'] at this;generalize t.getD 5 undef=u at this;cases this;rfl
 have qc:dB (aJ.plus iq) sJ (hl (G.map du)) [(5,.ak 0 1 0 0)] (t.setIfInBounds 19 (.tuple #[])):=λi=>by
  simp only[a'];split
  ·rename_i e;subst e;have fy:(t.setIfInBounds 19 (.tuple #[])).getD 5 undef=ptr o 0:=by
    rw[<-ax,Array.getD_eq_getD_getElem?,Array.getD_eq_getD_getElem?,Array.getElem?_setIfInBounds_ne br]
   rw[fy];have:=aA.ak (S:=aJ.plus iq) (B:=sJ) (σ:=hl (G.map du)) (id:=0) (n:=1) (i:=0) (j:=0) (k:=1) (t:=99) (l:=[tW (G.map du)]) (b:=o) (N:=1) (by simp[hl]) rfl dV;simpa using this
  ·exact .cz _
 refine V.here (x:=one _) (m:=0) (nt:=23) (S:=aJ.plus iq) (B:=sJ) (σ:=hl (G.map du)) (env:=[(5,.ak 0 1 0 0)]) ?_ ⟨e2,qc,Eq.trans (Array.size_setIfInBounds ..) ω.size,Nat.zero_le _⟩ _ rfl;have fin:∀(e:Bool) (k:Nat),dD (.sl e k (mg.map du)) (cL mg)->V Tryz.prog Q mn (one (bB y s (.par 3 0 .bH) v2 0)) (F7 vs) (c::cs) 23 ⟨aJ.plus iq,sJ,bN,hl (G.map du),0⟩ [.code .ret] [(2,.sl e k (mg.map du))] []:=λe k dρ=>by
  intro ju kK iF t5 lq mf;obtain rfl:kK=[]:=dO.1 mf.holds.len;refine aV.ret (δ _ _ _) rfl rfl (aV.back (δ _ _ _) rfl rfl (.inl rfl) Tryz.func116 ?_);refine χ.mono (λu JF ⟨JE,dς,mw,CO,bf,GW⟩=>?_) (λ_ _ h=>h) _ (EC Φ (a:=.sl e k (mg.map du)) rfl mf.holds mf.cH);obtain rfl:dς=[]:=dO.1 bf.len;rintro mM rfl;have FG:=qm.trans (lq.ext.trans mw);exact mO.ret _ [] JE [] JF u ⟨dρ,rfl⟩ FG ⟨FG.dy,λid r h=>by simp at h⟩ bf GW _ (Ki _)
 refine V.gj (δ _ _ _) rfl ?_;refine W.bL ?_;have pS:∀e∈G.map du,∀a∈e.cells,aG 0 a:=λe he a ν=>by
  obtain⟨z,_,rfl⟩:=List.mem_map.1 he;exact yS z a ν
 by_cases Ψ:G=[]
 ·subst Ψ;have dτ:mg=[]:=Kk.symm.eq_nil;subst dτ;refine da ?_;refine dt λΚ κ=>?_;simp;(repeat (rw[ah];simp[hl,JW,kL]));refine aB.c (YJ F9 η) (b2.refl _) η η ?_;simp;(repeat (rw[ah];simp));apply κ;refine bc λΚ κ=>?_;apply κ;refine W.cut 0 (Nat.zero_le _) [(2,.sl true 0 [])] (Nat.zero_le _) (λid r h=>J) (by simp;exact .low η) ?_;exact .stop (fin _ _ .nil)
 ·have ob:G.map du≠[]:=by simpa using Ψ
  have ξ:=dι Kk vJ;refine da ?_;refine dt λΚ κ=>?_;simp;(repeat (rw[ah];simp[hl,FR ob,eL ob]));have QH:=X7 G.toArray G.length η J F9 tX η dν;rw[ξ] at QH;have hlen:mg.length=G.length:=Kk.length_eq.symm;have a9:aG 0 F9:=η;have QI:∀e∈mg.map du,∀a∈e.cells,aG 0 a:=λe he a ν=>by
   obtain⟨z,_,rfl⟩:=List.mem_map.1 he;exact yS z a ν
  refine af.one QH 1 rfl pS QI (by simp[mW,xe,a9.jN 1]) (by simp[fD]) (by simp[mX,pe,a9.eg [1]]) ?_;simp[eg,hF];(repeat (rw[ah];simp));apply κ;refine bc λΚ κ=>?_;apply κ;refine W.cut 0 (Nat.zero_le _) [(2,.sl false 3 (mg.map du))] (Nat.zero_le _) (λid r h=>J) (λp ω=>?_) ?_
  ·obtain rfl:p=(2,.sl false 3 (mg.map du)):=by simpa using ω
   refine eK.own (id:=1) (t:=110) (Nat.zero_le _) rfl (by simp[hlen]) QI
  ·exact .stop (fin _ _ (.refl _))
end
theorem Kl {P:Program} {ty:TypeId} {z:Value} (h:((P.info? ty).bind (·.zero))=some z):∃inf,P.info? ty=some inf/\inf.zero=some z:=by
 cases hi:P.info? ty with
 | none=>rw[hi] at h;cases h
 | some inf=>rw[hi] at h;exact⟨inf,rfl,h⟩
theorem dυ:((Tryz.prog.info? 173).bind (·.zero))=some (.agg #[.int .i32 0,.int .u32 0]):=by kernel_rfl
theorem dφ:((Tryz.prog.info? 179).bind (·.zero))=some (.agg #[.int .u64 0,.int .u32 0]):=by kernel_rfl
theorem dχ:((Tryz.prog.info? 99).bind (·.zero))=some (.slice none 0 0):=by kernel_rfl
theorem dψ {o:Nat}:Holds fE [some (o,1)] (hl []) (Γ.empty.dS o #[.slice none 0 0] 99):=by
 have ao:Holds fE [] [] Γ.empty:=zc _
 have π:gq fE [] [] #[.slice none 0 0] 1 [.sl true 0 []]:=gq.one (a:=.sl true 0 []) (v:=.slice none 0 0) (.iT none 0 λ_=>rfl) rfl;exact(Az (P:=Tryz.prog) (K:=λr G=>Holds fE [some (r,1)] (hl []) G) (E:=λ_ _=>False) ao π 99 λr _ U _ _=>U).2 o ⟨λ_=>rfl,rfl,rfl,λ_ _=>⟨λ_=>rfl,rfl,rfl⟩⟩
section
variable {fd:Nat->Option Found} {pr:Nat->Int×Int} {F:Nat->Found} {N:Nat->Nat} {eA:aU} {mg:List Found}
theorem dω (cF:F8 eA fd pr F N) (fY:pr 0=(1,0)) (dz:pr 1=(2,0)) (p2:pr 2=(2,1)) (Kh:(List.range 3).filterMap fd=mg) (vJ:mg.Pairwise pz):@aB py Tryz.prog 116 [fu eA] (cL mg):=by
 refine⟨⟨_,Tryz.func116,rfl,rfl⟩,λQ mn x c rest fJ eV et vs vE s9 J5 mO=>?_⟩;obtain rfl:x=calm:=@Seq.cls py x vE;obtain rfl:eV=[]:=dO.1 s9.len;rintro y ⟨eE,gn,uX,c0⟩;letI:bq:=fi;have δ:Seq (one y):=Seq.vv trivial eE gn;rw[q5 (body:=zn) Tryz.func116 rfl];refine V.here (x:=one y) (m:=0) (nt:=23) (S:=fJ) (B:=[]) (H:=et) (σ:=[]) (env:=entry 0 [fu eA]) ?_ (gd.enter s9 J5 (Nat.le_refl _) η) y rfl;refine V.gj δ rfl ?_;simp only[zn,Tryz.f116,Option.getD_some];refine da ?_;refine W.cC (.stop ?_);refine V.boxed δ rfl rfl rfl rfl rfl (l:=[aY eA.ar,aX eA.az,bO eA.cells]) rfl rfl η λS B H t β c1 ν ω hy dΑ π he dΒ J7=>?_;obtain rfl:B=[]:=dO.1 ω.holds.len;refine V.here (x:=one y) (m:=0) (nt:=23) (S:=S.lay β c1) (B:=[]) (σ:=[]) (env:=[(1,.au [aY eA.ar,aX eA.az,bO eA.cells])]) ?_
  ⟨dΒ,xF (dB.put (ω.cH.later π) (d:=1) (by rw[ω.size];omega) J7) η,Eq.trans (Array.size_setIfInBounds ..) ω.size,Nat.zero_le _⟩
 refine V.gj δ rfl ?_;refine fM [1] [] ?_;refine W.bL ?_;refine da ?_;refine W.cC (.stop ?_);intro c8 e3 bN t2 so nJ;obtain rfl:e3=[]:=dO.1 nJ.holds.len;rintro mM rfl;obtain⟨i1,aa,ai⟩:=Kl dυ;obtain⟨i2,aZ,cn⟩:=Kl dφ;obtain⟨i3,gr,jm⟩:=Kl dχ;refine cG.Ka eE ⟨rfl,rfl,by simp[Frame.enter],rfl⟩ rfl rfl aa ai λm hZ _=>?_;refine cG.next ?_ ?_ ?_
 ·exact .inl eE
 ·rfl
 refine cG.Ka ?_ ⟨rfl,rfl,by simp[Frame.enter],rfl⟩ rfl rfl aZ cn λs sG de=>?_
 ·exact eE
 refine cG.next ?_ ?_ ?_
 ·exact .inl eE
 ·rfl
 refine cG.Ka ?_ ⟨rfl,rfl,by simp[Frame.enter],rfl⟩ rfl rfl gr jm λo xH wH=>?_
 ·exact eE
 have s7:m<s:=de m _ (upd_same ..)
 have Kc:s<o:=wH s _ (upd_same ..);obtain⟨sp,ca⟩:∃sp:Spec,sp=⟨some m,xD β c8 o fd,λ_ E=>E=Γ.empty,3⟩:=⟨_,rfl⟩;have F':∃q v,c8 β q=some v:=let ⟨u,hu⟩:=dΑ;⟨0,u,so.ext.dy _ _ _ hu⟩;have oY:∃q x,bN.aS β q=some x:=let ⟨q,u,hu⟩:=F';let ⟨p,ω⟩:=nJ.holds.dy _ _ _ hu;⟨q,_,ω⟩;have QJ:β<o:=let ⟨_,_,h⟩:=oY;JU h xH;have fQ:sp.a4=some m:=by rw[ca]
 have cV:sp.av=xD β c8 o fd:=by rw[ca]
 have eH:∀k E,sp.D k E↔E=Γ.empty:=λk E=>by rw[ca]
 have hk:sp.top=3:=by rw[ca]
 clear ca;have dΓ:sp.av [] (Γ.empty.dS o #[.slice none 0 0] 99):=by
  rw[cV];refine⟨⟨λb q x hb=>?_,λb x hb=>?_,λb x hb=>(by cases hb)⟩,fE,_,dψ,rfl⟩
  ·by_cases e:b=o
   ·exact .inr (e▸QJ)
   ·simp[Γ.dS,e,Γ.empty] at hb
  ·by_cases e:b=o
   ·exact e▸QJ
   ·simp[Γ.dS,e,Γ.empty] at hb
 refine cG.group (y:=mM) (sp:=sp) eE gn s7 Kc fQ xH dΓ ?_;obtain⟨lC,qn⟩:=aF ({mM with spec:=upd mM.spec s (some sp)}:a7);have dΔ:({mM with tok:=upd mM.tok s (.par 0 0 .add),spec:=upd mM.spec s (some sp),view:=upd mM.view s none}:a7)=bB lC s (.par 0 0 .add) none 0:=by
  rw[qn];unfold bB;simp only[uX]
 rw[dΔ];have B6:m5 lC s sp:=by
  rw[qn];refine⟨eE,gn,upd_same ..,by rw[hk];decide,λbs _=>?_⟩;have:=c0 bs;show oa (mM.tok bs);cases QK:mM.tok bs with
  | nil=>trivial
  | par n p aQ=>rw[QK] at this;cases aQ<;>first|trivial|exact this.elim
  | ch k mu g=>rw[QK] at this;exact this.elim
 have Ki:∀v,Calm (bB lC s (.par 3 0 .bH) v 0):=λv=>by
  rw[qn];refine⟨eE,gn,rfl,λbs=>?_⟩;by_cases e:bs=s
  ·subst e;rw[cm];trivial
  ·rw[BD e];exact c0 bs
 have ph:=B6.seq
 have Kg:=cF.nM
 have BY:Ext fJ [] et c8 [] bN:=ν.ext.trans (he.trans so.ext)
 have Kj:et.fresh β:=ν.ext.grow _ hy;refine V.here (x:=one _) (m:=0) (nt:=23) (S:=c8) (B:=[]) (σ:=[]) (env:=env0 s m o eA []) ?_
  ⟨nJ.holds,xF (dB.put (dB.put (dB.put nJ.cH (d:=3) (by rw[nJ.size];omega) (.z (ptr m 0))) (d:=4) (by rw[Array.size_setIfInBounds,nJ.size];omega) (.z (ptr s 0))) (d:=5) (by rw[Array.size_setIfInBounds,Array.size_setIfInBounds,nJ.size];omega) (.z (ptr o 0))) η,
   Eq.trans (Array.size_setIfInBounds ..) (Eq.trans (Array.size_setIfInBounds ..) (Eq.trans (Array.size_setIfInBounds ..) nJ.size)),Nat.zero_le _⟩ _ rfl
 have w1:IntKind.i64.wrap 1=1:=br
 have w2:IntKind.i64.wrap 2=2:=br
 have w3:IntKind.i64.wrap 3=3:=br;refine V.gj (ph _ _ _) rfl ?_;refine W.bL ?_;refine ih ?_;refine .loop ?_;refine ih ?_;refine dj (A:=[6]) Φ λΚ κ=>bp ?_;apply κ;refine W.fix (id:=0) (σ':=[]) (Nat.zero_le _) rfl η η rfl ((6,.au [I 0])::env0 s m o eA [(8,I 0)]) η ?_;refine ih ?_;refine .loop ?_;refine ih ?_;refine W.exit rfl ?_;refine ij (ς w1 (ς w2 w3)) ?_;refine .inLoop ?_;refine ih ?_;refine dj (A:=[6]) Φ λΚ κ=>bp ?_;apply κ;refine W.fix (id:=0) (σ':=[]) (Nat.zero_le _) rfl η η rfl ((6,.au [I 1])::env0 s m o eA [(8,I 1)]) η ?_;refine ih ?_;refine .loop ?_;refine ih ?_;refine dj (A:=[7]) Φ λΚ κ=>bp ?_;apply κ;refine W.fix (id:=0) (σ':=[]) (Nat.zero_le _) rfl η η rfl (zo s m o eA 1 0 [(8,I 1),(11,I 1),(12,I 0)]) η ?_;refine W.stop (Kd fY B6 fQ cV (λk=>(eH k _).2 rfl) hk br cF F' oY η ?_);refine V.gj (ph _ _ _) rfl ?_;refine ij (ς w1 (ς w2 w3)) ?_;refine .inLoop ?_;refine ih ?_;refine W.exit rfl ?_;refine ij (ς w1 (ς w2 w3)) ?_;refine .inLoop ?_;refine ih ?_;refine dj (A:=[6]) Φ λΚ κ=>bp ?_;apply κ;refine W.fix (id:=0) (σ':=[]) (Nat.zero_le _) rfl η η rfl ((6,.au [I 2])::env0 s m o eA [(8,I 2)]) η ?_;refine ih ?_;refine .loop ?_;refine ih ?_;refine dj (A:=[7]) Φ λΚ κ=>bp ?_;apply κ;refine W.fix (id:=0) (σ':=[]) (Nat.zero_le _) rfl η η rfl (zo s m o eA 2 0 [(8,I 2),(11,I 2),(12,I 0)]) η ?_;refine W.stop (Kd dz B6 fQ cV (λk=>(eH k _).2 rfl) hk br cF F' oY η ?_);refine V.gj (ph _ _ _) rfl ?_;refine ij (ς w1 (ς w2 w3)) ?_;refine .inLoop ?_;refine ih ?_;refine dj (A:=[7]) Φ λΚ κ=>bp ?_;apply κ;refine W.fix (id:=0) (σ':=[]) (Nat.zero_le _) rfl η η rfl (zo s m o eA 2 1 [(8,I 2),(11,I 2),(12,I 1)]) η ?_;refine W.stop (Kd p2 B6 fQ cV (λk=>(eH k _).2 rfl) hk br cF F' oY η ?_);refine V.gj (ph _ _ _) rfl ?_;refine ij (ς w1 (ς w2 w3)) ?_;refine .inLoop ?_;refine ih ?_;refine W.exit rfl ?_;refine ij (ς w1 (ς w2 w3)) ?_;refine .inLoop ?_;refine ih ?_;refine W.exit rfl ?_;refine W.forget (env0 s m o eA []) η ?_;refine W.stop ?_;exact dξ B6 fQ cV (λk E=>(eH k E).1) Kg Kh vJ Ki mO BY Kj
end
end Go.TL
namespace Go.TL
open Go.Proofs
variable [bq]
def aU.kh (s:aU) (n:Int):Bool:=decide (n< -1)||decide ((s.ar.length:Int)<=n)
def tY (s:aU) (inks qo:List Int) (cd:Int):Int×Int:=
 if s.err≠0 then(0,s.err) else
 match inks,qo with
 | [i0,i1],[l0,l1]=>if ox i0=false\/ox i1=false\/s.kh l0=true\/s.kh l1=true\/cd<0\/(s.az.length:Int)<=cd then(0,3) else if i0<=i1 then(0,5) else(s.gv (i0,i1) (l0,l1) cd.toNat,0)
 | _,_=>(0,8)
theorem dΕ (s:aU) (n:Int):aB Tryz.prog 92 [I n,.au [aY s.ar,aX s.az,bO s.cells]] (ba (s.kh n)):=by
 refine af.body Φ Tryz.func92 rfl rfl Tryz.ntmps92 rfl rfl η ?_;by_cases h:n< -1
 ·refine aE h ?_;refine W.rt ?_;exact .of (by simp[aU.kh,h])
 ·refine aE h ?_;refine W.rt ?_;exact .of (by simp[aU.kh,h])
abbrev dΖ (p:Int×Int):θ:=.bj [I p.1,I p.2]
theorem dΗ (s:aU) (ξ:s.small) (inks qo:List Int) (cd:Int):aB Tryz.prog 34 [fu s,bD I 1 inks,bD I 1 qo,I cd] (dΖ (tY s inks qo cd)):=by
 refine af.body Φ Tryz.func34 rfl rfl Tryz.ntmps34 rfl rfl η ?_;refine Η ?_;refine bc λΚ κ=>?_;refine aB.d (I4 s ξ) (bp ?_);apply κ;refine Η ?_;by_cases df:s.err=0
 case neg=>
  refine aC (by simp[df]) ?_;refine Η ?_;refine W.rt ?_;exact .of (by rw[show tY s inks qo cd=(0,s.err) by unfold tY;rw[if_pos df]];rfl)
 refine ay (by simp[df]) ?_;refine Η ?_;have hv:tY s inks qo cd=match (generalizing:=false) inks,qo with
   | [i0,i1],[l0,l1]=>if ox i0=false\/ox i1=false\/s.kh l0=true\/s.kh l1=true\/cd<0\/(s.az.length:Int)<=cd then(0,3) else if i0<=i1 then(0,5) else(s.gv (i0,i1) (l0,l1) cd.toNat,0)
   | _,_=>(0,8):=by unfold tY;rw[if_neg (by simpa using df)]
 by_cases bE:(inks.length:Int)=2
 case neg=>
  have e:tY s inks qo cd=(0,8):=by
   rw[hv];split
   ·simp at bE
   ·rfl
  refine g9 bE λΚ κ=>?_;apply κ;refine aC rfl ?_;refine Η ?_;refine W.rt ?_;exact .of (by rw[e];rfl)
 by_cases c6:(qo.length:Int)=2
 case neg=>
  have e:tY s inks qo cd=(0,8):=by
   rw[hv];split
   ·simp at c6
   ·rfl
  refine g9 (ς bE c6) λΚ κ=>?_;apply κ;refine aC rfl ?_;refine Η ?_;refine W.rt ?_;exact .of (by rw[e];rfl)
 obtain⟨i0,i1,rfl⟩:∃a b,inks=[a,b]:=by
  match inks,bE with
  | [a,b],_=>exact⟨a,b,rfl⟩
  | [],h=>simp at h
  | [_],h=>simp at h
  | _::_::_::_,h=>simp at h;omega
 obtain⟨l0,l1,rfl⟩:∃a b,qo=[a,b]:=by
  match qo,c6 with
  | [a,b],_=>exact⟨a,b,rfl⟩
  | [],h=>simp at h
  | [_],h=>simp at h
  | _::_::_::_,h=>simp at h;omega
 simp only at hv;refine bc λΚ κ=>?_;apply κ;refine ay rfl ?_
 repeat apply ae
 have f3:(ox i0=false\/ox i1=false\/s.kh l0=true\/s.kh l1=true\/cd<0\/(s.az.length:Int)<=cd)->tY s [i0,i1] [l0,l1] cd=(0,3):=λh=>by rw[hv];exact if_pos h
 have dΘ:([l0,l1].any s.kh)=(s.kh l0||s.kh l1):=η
 have call3:aB Tryz.prog 94 [bD I 1 [l0,l1],.fn (.func 92) [] [.au [aY s.ar,aX s.az,bO s.cells]]] (ba (s.kh l0||s.kh l1)):=by
  rw[<-dΘ];exact Ya [l0,l1] _ s.kh η (by simp[kG]) (λx _=>λ_=>(dΕ s x).cc (by simp;exact b2.refl _) η η ⟨rfl,rfl⟩)
 cases ed:ox i0
 case false=>
  have a8:=f3 (.inl ed);refine bc λΚ κ=>?_;refine aB.d (p0 i0) (gh ed ?_);apply κ;refine aC rfl ?_;refine Η ?_;refine W.rt ?_;exact .of (by rw[a8];rfl)
 cases c1:ox i1
 case false=>
  have a8:=f3 (.inr (.inl c1));refine bc λΚ κ=>?_;refine aB.d (p0 i0) (gh ed ?_);refine aB.d (p0 i1) (gh c1 ?_);apply κ;refine aC rfl ?_;refine Η ?_;refine W.rt ?_;exact .of (by rw[a8];rfl)
 cases c2:s.kh l0||s.kh l1
 case true=>
  have a8:=f3 (.inr (.inr (by rcases Bool.or_eq_true _ _ |>.mp c2 with h|h<;>simp[h])));refine bc λΚ κ=>?_;refine aB.d (p0 i0) (gh ed ?_);refine aB.d (p0 i1) (gh c1 ?_);refine aB.c call3 (b2.refl _) (by simp[kG]) η ?_;simp[c2];(repeat (rw[ah];simp[c2]));apply κ;refine aC rfl ?_;refine Η ?_;refine W.rt ?_;exact .of (by rw[a8];rfl)
 by_cases c3:cd<0
 ·have a8:=f3 (.inr (.inr (.inr (.inr (.inl c3)))));refine bc λΚ κ=>?_;refine aB.d (p0 i0) (gh ed ?_);refine aB.d (p0 i1) (gh c1 ?_);refine aB.c call3 (b2.refl _) (by simp[kG]) η ?_;simp[c2,c3];(repeat (rw[ah];simp[c2,c3]));apply κ;refine aC rfl ?_;refine Η ?_;refine W.rt ?_;exact .of (by rw[a8];rfl)
 by_cases c4:(s.az.length:Int)<=cd
 ·have a8:=f3 (.inr (.inr (.inr (.inr (.inr c4)))));refine bc λΚ κ=>?_;refine aB.d (p0 i0) (gh ed ?_);refine aB.d (p0 i1) (gh c1 ?_);refine aB.c call3 (b2.refl _) (by simp[kG]) η ?_;simp[c2,c3,c4];(repeat (rw[ah];simp[c2,c3,c4]));apply κ;refine aC rfl ?_;refine Η ?_;refine W.rt ?_;exact .of (by rw[a8];rfl)
 have Ga:s.kh l0=false/\s.kh l1=false:=by simpa using c2
 rw[if_neg (by rw[ed,c1,Ga.1,Ga.2];simp;omega)] at hv;refine bc λΚ κ=>?_;refine aB.d (p0 i0) (gh ed ?_);refine aB.d (p0 i1) (gh c1 ?_);refine aB.c call3 (b2.refl _) (by simp[kG]) η ?_;simp[c2,c3,c4];(repeat (rw[ah];simp[c2,c3,c4]));apply κ;refine ay rfl ?_
 repeat apply ae
 refine vf ?_;by_cases kE:i0<=i1
 ·rw[if_pos kE] at hv;refine aC (by simp[kE]) ?_;refine Η ?_;refine W.rt ?_;exact .of (by rw[hv];rfl)
 ·rw[if_neg kE] at hv;refine ay (by simp[kE]) ?_;obtain⟨n,rfl⟩:∃n:Nat,cd=n:=⟨cd.toNat,J⟩;have Θ:n<s.az.length:=J;have cN:l0<s.ar.length:=by have:=Ga.1;simp[aU.kh] at this;omega
  have aa:l1<s.ar.length:=by have:=Ga.2;simp[aU.kh] at this;omega
  repeat apply ae
  refine W.draw (A:=[]) Φ mixed λΚ κ=>sm ?_;refine eD (aB.p (Bd s ξ (i0,i1) (l0,l1) n Θ cN aa) (b2.refl _) η η) ?_;simp;(repeat (rw[cY];simp));try rw[cX]
  refine en (κ _ _ ?_);refine Η ?_;refine W.rt ?_;exact .of (by rw[hv];rfl)
end Go.TL
