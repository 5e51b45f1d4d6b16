import Derived.Conc.Own2
import Derived.Test.YtlabjopijpkiaaaGreatQAS
import Derived.Test.YtlabjopijpkiaaaGreatQAU
import Derived.Test.YtlabjopijpkiaaaGreatQAX
set_option maxHeartbeats 16000000
set_option maxRecDepth 20000
set_option linter.unusedSectionVars false
set_option linter.unusedSimpArgs false
set_option linter.unusedVariables false
namespace Go.TL
open Go.Conc Go.Proofs
open Go.ConcN (sumTo upd sumTo_upd upd_ne upd_same sumTo_congr le_sumTo)
noncomputable def ER:Code:=Tryz.f140.body.getD .skip
noncomputable abbrev I2 (s:Nat):Frame:={Frame.enter Tryz.prog 140 #[ptr s 0,.int .i64 (-1)] .normal with defers:=[Go.Conc.dcall 161 #[]]}
theorem Zn:IntKind.u64.wrap (IntKind.u64.wrap (-1)*2 ^ min 32 IntKind.u64.bits)=18446744069414584320:=by decide
theorem Zo:IntKind.u64.wrap (18446744073709551615*2 ^ min 32 IntKind.u64.bits)=18446744069414584320:=by decide
theorem Zp:IntKind.u64.wrap (-1)=18446744073709551615:=by decide
theorem ES:IntKind.i32.wrap (-1)=-1:=by decide
section
variable {Q:Value->Prop} {c:Frame} {rest:List Frame} {s k:Nat} {sp:Spec} {v:Option (Nat×aM)}
theorem Zq [bn] (Θ:k0 Tryz.prog 0 (Go.Conc.G (c.finish (.tuple #[])) rest)) {cc w0:Nat} (J:cc<8) (γ:w0<2) (π:0<cc\/w0=0) {env:Ω} (cI:a5 env 0=.z (ptr s 0)) (Ε:a5 env 1=.z (.int .i64 (-1))) (cD:a5 env 4=.z (.bool false)) (lj:a5 env 6=.z (.int .u64 (hZ cc w0))) :
  aa (k0 Tryz.prog 1) (I2 s) (c::rest) 117 [.code (dJ [1,1,1,1] ER)] env:=by
 have fin:∀(K:List Item) (env:Ω),aa (k0 Tryz.prog 1) (I2 s) (c::rest) 117 (.code .ret::K) env:=λK env=>aa.IU rfl rfl rfl rfl Tryz.func140 rfl uD Θ
 have O6:¬(cc:Int)<0:=Int.not_lt.2 (Int.natCast_nonneg _)
 have hw:w0=0\/w0=1:=by omega
 have f1:=EK cc J w0 γ
 have f2:=EL cc J w0 γ
 have f3:=EM cc J w0 γ;generalize hZ cc w0=w at f1 f2 f3 lj;unfold ER;by_cases ω:0<cc
 ·have hU:(0:Int)<cc:=by exact_mod_cast ω
  rcases hw with rfl|rfl
  ·(repeat (first|refine aa.seq dT rfl ?_|refine aa.block dT rfl ?_|refine aa.inBlock dT rfl ?_|refine aa.skip dT rfl ?_|refine aa.mM dT rfl rfl ?_|refine aa.mN dT rfl rfl ?_|(refine aa.region dT rfl Κ rfl (by simp[Frame.enter]) λη I=>?_;(try simp);(repeat (refine g0 ?_;simp[cI,Ε,cD,lj,f1,f2,f3,ES,O6,ω,hU]));refine I _ ?_)));exact fin _ _
  ·(repeat (first|refine aa.seq dT rfl ?_|refine aa.block dT rfl ?_|refine aa.inBlock dT rfl ?_|refine aa.skip dT rfl ?_|refine aa.mM dT rfl rfl ?_|refine aa.mN dT rfl rfl ?_|(refine aa.region dT rfl Κ rfl (by simp[Frame.enter]) λη I=>?_;(try simp);(repeat (refine g0 ?_;simp[cI,Ε,cD,lj,f1,f2,f3,ES,O6,ω,hU]));refine I _ ?_)));exact fin _ _
 ·have ah:w0=0:=π.resolve_left ω
  have kl:cc=0:=Nat.eq_zero_of_not_pos ω;subst ah;subst kl;(repeat (first|refine aa.seq dT rfl ?_|refine aa.block dT rfl ?_|refine aa.inBlock dT rfl ?_|refine aa.skip dT rfl ?_|refine aa.mM dT rfl rfl ?_|refine aa.mN dT rfl rfl ?_|(refine aa.region dT rfl Κ rfl (by simp[Frame.enter]) λη I=>?_;(try simp);(repeat (refine g0 ?_;simp[cI,Ε,cD,lj,f1,f2,f3,ES]));refine I _ ?_)));exact fin _ _
structure qg (x:aU) (s:Nat) (sp:Spec):Prop where
 rel:x.rel=true
 spec:x.spec s=some sp
 top:sp.top<7
 shut:∀bq,bq≠s->fO (x.tok bq)
theorem qg.here {x:aU} (h:qg x s sp) {g:tk} {d:Nat} (Υ:g≠.gone):eR (bx x s (.ch k .done g) v d):=.inr ⟨s,by rw[b3];cases g<;>simp_all [Gone]⟩
theorem qg.gone {x:aU} (h:qg x s sp) {d:Nat}:∀bq,Gone ((bx x s (.ch k .done .gone) v d).tok bq):=λbq=>by
 by_cases e:bq=s
 ·subst e;rw[b3];trivial
 ·rw[AU e];have:=h.shut bq e;revert this;cases x.tok bq with
  | nil=>exact λ_=>trivial
  | par n p ae=>cases ae<;>exact λh=>h
  | ch k m g=>exact λh=>h.elim
theorem qg.EN {x:aU} (ζ:qg x s sp) {ς:aM} (h:ς.toSpec=sp):ς.top<7:=by have:=ζ.top;rw[show ς.top=sp.top by rw[<-h]];exact this
theorem aa.back [bn] {dt:Goroutine->Prop} {b:Frame} {cs:List Frame} {nt:Nat} {k:List Item} {env:Ω} {ops:Array Oper} {i:Nat} {rest:List Nat} {op:Oper} {t:Array Value} {v:Value} (Γ:ops[i]?=some op) (hd:h2 nt op=true) (Ξ:t.size=nt) (ο:cY e7 [] [] env t)
  (h:aa dt b cs nt (.inRegion ops rest::k) (ca op env (.z v))):dt (Go.Conc.G ((au b t (.inRegion ops (i::rest)::k)).finish v) cs):=by
 rw[ij Γ];obtain⟨s2,s1⟩:=q3 ο hd Ξ (a:=.z v) (v:=v) (.z _);exact h _ s1 s2
theorem aa.O7 [bn] {P:Program} {b:Frame} {cs:List Frame} {nt:Nat} {env:Ω} (hb:b.mode=.run) (cf:b.roundOf=none) (eo:b.defers=[]) (gq:b.kind=.deferred) {fn:Func} (bY:P.funcs[b.fn]?=some fn) (eY:fn.results=#[]) {c:Frame} (j6:c.mode=.returning)
  (h:k0 P 0 (Go.Conc.G c cs)):aa (k0 P 0) b (c::cs) nt [] env:=λt _ _=>by
 obtain⟨n,Ι⟩:=h;refine dT _ (Go.Conc.G {au b t [] with mode:=.returning} (c::cs)) ⟨rfl,rfl⟩ (λw=>?_) ⟨n+1,?_⟩
 ·rw[i' hb];unfold stepG.exec;simp only[au,cf];rfl
 ·rw[gD hb cf];exact QuitsD.leaveD (a:=⟨t,b.defers⟩) gq eo bY eY j6 Ι
theorem Zr [bn] {x:aU} (ζ:qg x s sp) {t:Tok} (aS:∀v,eR (bx x s t v 1)) (cQ:¬fO t) {cs:List Frame} (dq:∀φ ς,Seen (bx x s t v 1) s sp φ ς->j7 Tryz.prog Q false (bx x s t (some (φ,ς)) 1) (Go.Conc.G (c.finish (.int .u64 (cN ς))) cs)) :
  aa (j7 Tryz.prog Q false (bx x s t v 1)) (Frame.enter Tryz.prog 168 #[ptr s 0] .normal) (c::cs) 7 [.code (Tryz.f168.body.getD .skip)] (entry 0 [.z (ptr s 0)]):=by
 simp only[Tryz.f168,Option.getD_some];(repeat (first|refine aa.seq (bt (aS _)) rfl ?_|refine aa.block (bt (aS _)) rfl ?_|refine aa.inBlock (bt (aS _)) rfl ?_|refine aa.skip (bt (aS _)) rfl ?_|refine aa.mM (bt (aS _)) rfl rfl ?_|refine aa.mN (bt (aS _)) rfl rfl ?_|(refine aa.region (bt (aS _)) rfl Κ rfl (by simp[Frame.enter]) λη I=>?_;(try simp);(repeat (refine g0 ?_;simp[cQ]));refine I _ ?_)));refine aa.cl (bt (aS _)) rfl ?_;refine aa.part (bt (aS _)) rfl Κ rfl (by simp[Frame.enter]) [0,1,2] [3,4] rfl λη I=>?_;(try simp[-wD]);(repeat (refine g0 ?_;simp));refine I _ ?_;refine aa.Iw (aS _) (Nat.succ_pos _) (sp:=sp) ζ.spec (by rw[b3];exact cQ) ⟨⟨rfl,rfl,by simp[Frame.enter],rfl⟩,OD,⟨_,rfl⟩,rfl,rfl,rfl⟩ λφ ς ο=>?_;unfold I1;rw[j5];refine aa.part (bt (aS _)) rfl Κ rfl (by simp[Frame.enter]) [4] [] rfl λη I=>?_;(try simp[-wD]);(repeat (refine g0 ?_;simp));refine I _ ?_;refine aa.bJ (bt (aS _)) rfl ?_;exact aa.sP (bt (aS _)) rfl rfl rfl rfl Tryz.func168 rfl rfl (dq φ ς ο)
theorem Zs [bn] {x:aU} (ζ:qg x s sp) {t t':Tok} {d:Int} (aS:∀v,eR (bx x s t v 1)) (O8:∀v,eR (bx x s t' v 1)) (cQ:¬fO t) {cs:List Frame} (dq:∀φ ς,Seen (bx x s t v 1) s sp φ ς->∃o',cN o'=d/\o'.cH=ς.cH/\ru ς o'/\Act ς t o' t'/\∀cn,cn<φ->j7 Tryz.prog Q false (bx x s t' (some (cn,o')) 1) (Go.Conc.G (c.finish (.tuple #[])) cs)) :
  aa (j7 Tryz.prog Q false (bx x s t v 1)) (Frame.enter Tryz.prog 169 #[ptr s 0,.int .u64 d] .normal) (c::cs) 9 [.code (Tryz.f169.body.getD .skip)] (entry 0 [.z (ptr s 0),.z (.int .u64 d)]):=by
 simp only[Tryz.f169,Option.getD_some];(repeat (first|refine aa.seq (bt (aS _)) rfl ?_|refine aa.block (bt (aS _)) rfl ?_|refine aa.inBlock (bt (aS _)) rfl ?_|refine aa.skip (bt (aS _)) rfl ?_|refine aa.mM (bt (aS _)) rfl rfl ?_|refine aa.mN (bt (aS _)) rfl rfl ?_|(refine aa.region (bt (aS _)) rfl Κ rfl (by simp[Frame.enter]) λη I=>?_;(try simp);(repeat (refine g0 ?_;simp[cQ]));refine I _ ?_)));refine aa.cl (bt (aS _)) rfl ?_;refine aa.part (bt (aS _)) rfl Κ rfl (by simp[Frame.enter]) [0,1,2,3] [4] rfl λη I=>?_;(try simp[-wD]);(repeat (refine g0 ?_;simp));refine I _ ?_;refine aa.Zk (aS _) (Nat.succ_pos _) (sp:=sp) ζ.spec (by rw[b3];exact cQ) ⟨⟨rfl,rfl,by simp[Frame.enter],rfl⟩,YA,⟨_,rfl⟩,rfl,rfl,rfl⟩ λφ ς ο=>?_;obtain⟨o',a1,ba,cm,fY,hH⟩:=dq φ ς ο;refine⟨o',t',a1,ba,cm,by rw[b3];exact fY,λcn et=>?_⟩;rw[gX];refine aa.bJ (bt (O8 _)) rfl ?_;exact aa.EA (bt (O8 _)) rfl rfl rfl rfl Tryz.func169 rfl (hH cn et)
theorem Zt [bn] {x:aU} (ζ:qg x s sp) {t:Tok} {d:Int} (aS:∀v,eR (bx x s t v 1)) (cQ:¬fO t) {cs:List Frame}
  (dq:∀φ ς,Seen (bx x s t v 1) s sp φ ς->∃o' t',cN o'=IntKind.u64.wrap (cN ς+d)/\o'.cH=ς.cH/\ru ς o'/\Act ς t o' t'/\∀cn,cn<φ->(((∀v,eR (bx x s t' v 1))/\j7 Tryz.prog Q false (bx x s t' (some (cn,o')) 1) (Go.Conc.G (c.finish (.int .u64 (cN o'))) cs))\/((∀bq,Gone ((bx x s t' (some (cn,o')) 1).tok bq))/\k0 Tryz.prog 1 (Go.Conc.G (c.finish (.int .u64 (cN o'))) cs)))) :
  aa (j7 Tryz.prog Q false (bx x s t v 1)) (Frame.enter Tryz.prog 166 #[ptr s 0,.int .u64 d] .normal) (c::cs) 10 [.code (Tryz.f166.body.getD .skip)] (entry 0 [.z (ptr s 0),.z (.int .u64 d)]):=by
 simp only[Tryz.f166,Option.getD_some];(repeat (first|refine aa.seq (bt (aS _)) rfl ?_|refine aa.block (bt (aS _)) rfl ?_|refine aa.inBlock (bt (aS _)) rfl ?_|refine aa.skip (bt (aS _)) rfl ?_|refine aa.mM (bt (aS _)) rfl rfl ?_|refine aa.mN (bt (aS _)) rfl rfl ?_|(refine aa.region (bt (aS _)) rfl Κ rfl (by simp[Frame.enter]) λη I=>?_;(try simp);(repeat (refine g0 ?_;simp[cQ]));refine I _ ?_)));refine aa.cl (bt (aS _)) rfl ?_;refine aa.part (bt (aS _)) rfl Κ rfl (by simp[Frame.enter]) [0,1,2,3] [4,5] rfl λη I=>?_;(try simp[-wD]);(repeat (refine g0 ?_;simp));refine I _ ?_;refine aa.Ix (aS _) (Nat.succ_pos _) (sp:=sp) ζ.spec (by rw[b3];exact cQ) ⟨⟨rfl,rfl,by simp[Frame.enter],rfl⟩,OC,⟨_,rfl⟩,rfl,rfl,rfl⟩ λφ ς ο=>?_;obtain⟨o',t',a1,ba,cm,fY,hH⟩:=dq φ ς ο;refine⟨o',t',a1,ba,cm,by rw[b3];exact fY,λcn et=>?_⟩;rw[gX];rcases hH cn et with⟨bP,dw⟩|⟨bP,dw⟩
 ·refine aa.part (bt (bP _)) rfl Κ rfl (by simp[Frame.enter]) [5] [] rfl λη I=>?_;(try simp[-wD]);(repeat (refine g0 ?_;simp));refine I _ ?_;refine aa.bJ (bt (bP _)) rfl ?_;exact aa.sP (bt (bP _)) rfl rfl rfl rfl Tryz.func166 rfl rfl dw
 ·refine aa.leaves (d:=1) ζ.rel bP rfl ?_;refine aa.part dT rfl Κ rfl (by simp[Frame.enter]) [5] [] rfl λη I=>?_;(try simp[-wD]);(repeat (refine g0 ?_;simp));refine I _ ?_;refine aa.bJ dT rfl ?_;exact aa.sP dT rfl rfl rfl rfl Tryz.func166 rfl rfl dw
theorem Zu [bn] {x:aU} (ζ:qg x s sp) (Θ:k0 Tryz.prog 0 (Go.Conc.G (c.finish (.tuple #[])) rest)) {env:Ω} (cI:a5 env 0=.z (ptr s 0)) (Ε:a5 env 1=.z (.int .i64 (-1))) (cD:a5 env 4=.z (.bool false)) (lj:a5 env 6=.z (.int .u64 (hZ 0 1))) :
  aa (j7 Tryz.prog Q false (bx x s (.ch k .done .l2) v 1)) (I2 s) (c::rest) 117 [.code (dJ [1,1,1,1] ER)] env:=by
 have f1:=EK 0 (by decide) 1 (by decide)
 have f2:=EL 0 (by decide) 1 (by decide)
 have f3:=EM 0 (by decide) 1 (by decide)
 have fL:hZ 0 1=1:=by decide
 generalize hw:hZ 0 1=w at f1 f2 f3 lj;have γ:=ζ.here (k:=k) (v:=v) (d:=1) (g:=.l2) (by simp);unfold ER;(repeat (first|refine aa.seq (bt γ) rfl ?_|refine aa.block (bt γ) rfl ?_|refine aa.inBlock (bt γ) rfl ?_|refine aa.skip (bt γ) rfl ?_|refine aa.mM (bt γ) rfl rfl ?_|refine aa.mN (bt γ) rfl rfl ?_|(refine aa.region (bt γ) rfl Κ rfl (by simp[Frame.enter]) λη I=>?_;(try simp);(repeat (refine g0 ?_;simp[cI,Ε,cD,lj,f1,f2,f3,ES]));refine I _ ?_)));refine aa.cl (bt γ) rfl ?_;refine aa.part (bt γ) rfl Κ rfl (by simp[Frame.enter]) [0,1,2] [3,4,5] rfl λη I=>?_;(repeat (refine g0 ?_;simp[cI]));refine I _ ?_;refine aa.call (bt γ) rfl ⟨rfl,rfl,by simp[Frame.enter],rfl⟩ rfl rfl (vs:=[ptr s 0]) rfl Tryz.func168 rfl rfl (by simp[Tryz.ntmps168]) λt Ξ ο=>?_;have hn:∀v,eR (bx x s (.ch k .done .l2) v 1):=λv=>ζ.here (by simp);have jN:∀v,eR (bx x s (.ch k .done .hG) v 1):=λv=>ζ.here (by simp);refine Zr ζ hn id λφ ς rz=>?_;have χ:=rz.jf.sT;rw[b3] at χ;obtain⟨Ρ,ag⟩:=χ.l2 k _ rfl;have qJ:cN ς=w:=by rw[<-hw];simp only[cN,Ρ,ag]
 rw[qJ];refine aa.back rfl rfl Ξ ο ?_;refine aa.part (bt (hn _)) rfl Κ rfl (by simp[Frame.enter]) [4,5] [] rfl λη I=>?_;(repeat (refine g0 ?_;simp[lj]));refine I _ ?_;refine aa.bJ (bt (hn _)) rfl ?_;(repeat (first|refine aa.seq (bt (hn _)) rfl ?_|refine aa.block (bt (hn _)) rfl ?_|refine aa.inBlock (bt (hn _)) rfl ?_|refine aa.skip (bt (hn _)) rfl ?_|refine aa.mM (bt (hn _)) rfl rfl ?_|refine aa.mN (bt (hn _)) rfl rfl ?_|(refine aa.region (bt (hn _)) rfl Κ rfl (by simp[Frame.enter]) λη I=>?_;(try simp);(repeat (refine g0 ?_;simp[cI]));refine I _ ?_)));refine aa.cl (bt (hn _)) rfl ?_;refine aa.part (bt (hn _)) rfl Κ rfl (by simp[Frame.enter]) [0,1,2] [3] rfl λη I=>?_;(repeat (refine g0 ?_;simp[cI]));refine I _ ?_;refine aa.call (bt (hn _)) rfl ⟨rfl,rfl,by simp[Frame.enter],rfl⟩ rfl rfl (vs:=[ptr s 0,.int .u64 0]) rfl Tryz.func169 rfl rfl (by simp[Tryz.ntmps169]) λt3 Zv ry=>?_;refine Zs ζ (t':=.ch k .done .hG) hn jN id λA5 Zw Zx=>?_;have wu:=Zx.jf.sT;rw[b3] at wu;obtain⟨aV,cr⟩:=wu.l2 k _ rfl;refine⟨{Zw with wt:=0},by simp only[cN,cr];rfl,rfl,⟨rfl,rfl,rfl⟩,.RY,λiΧ iΨ=>?_⟩;refine aa.back rfl rfl Zv ry ?_;refine aa.bJ (bt (jN _)) rfl ?_;(repeat (first|refine aa.seq (bt (jN _)) rfl ?_|refine aa.block (bt (jN _)) rfl ?_|refine aa.inBlock (bt (jN _)) rfl ?_|refine aa.skip (bt (jN _)) rfl ?_|refine aa.mM (bt (jN _)) rfl rfl ?_|refine aa.mN (bt (jN _)) rfl rfl ?_|(refine aa.region (bt (jN _)) rfl Κ rfl (by simp[Frame.enter]) λη I=>?_;(try simp);(repeat (refine g0 ?_;simp[cI,cD]));refine I _ ?_)));refine aa.loop (bt (jN _)) rfl ?_;(repeat (first|refine aa.seq (bt (jN _)) rfl ?_|refine aa.block (bt (jN _)) rfl ?_|refine aa.inBlock (bt (jN _)) rfl ?_|refine aa.skip (bt (jN _)) rfl ?_|refine aa.mM (bt (jN _)) rfl rfl ?_|refine aa.mN (bt (jN _)) rfl rfl ?_|(refine aa.region (bt (jN _)) rfl Κ rfl (by simp[Frame.enter]) λη I=>?_;(try simp);(repeat (refine g0 ?_;simp[cI,cD]));refine I _ ?_)));refine aa.cl (bt (jN _)) rfl ?_;refine aa.part (bt (jN _)) rfl Κ rfl (by simp[Frame.enter]) [0,1,2] [3] rfl λη I=>?_;(repeat (refine g0 ?_;simp[cI]));refine I _ ?_;refine aa.Zl (jN _) (sp:=sp) ζ.spec (by rw[b3];exact id) (vs:=[ptr s 1,.bool false,.int .i64 0]) rfl ⟨⟨rfl,rfl,by simp[Frame.enter],rfl⟩,YF,⟨_,rfl⟩,rfl,rfl,rfl⟩ λiΩ O9 Zy=>?_;have Pa:=Zy.jf.sT;rw[b3] at Pa;refine⟨by have:=Pa.cH;omega,{O9 with cH:=O9.cH+1},.ch k .done .gone,rfl,rfl,⟨rfl,rfl,rfl⟩,by rw[b3];exact .RZ,λjα jβ=>?_⟩;rw[gX];refine aa.leaves (d:=1) ζ.rel ζ.gone rfl ?_;refine aa.bJ dT rfl ?_;(repeat (first|refine aa.seq dT rfl ?_|refine aa.block dT rfl ?_|refine aa.inBlock dT rfl ?_|refine aa.skip dT rfl ?_|refine aa.mM dT rfl rfl ?_|refine aa.mN dT rfl rfl ?_|(refine aa.region dT rfl Κ rfl (by simp[Frame.enter]) λη I=>?_;(try simp);(repeat (refine g0 ?_;simp[cI,EO]));refine I _ ?_)));refine aa.inLoop dT rfl ?_;(repeat (first|refine aa.seq dT rfl ?_|refine aa.block dT rfl ?_|refine aa.inBlock dT rfl ?_|refine aa.skip dT rfl ?_|refine aa.mM dT rfl rfl ?_|refine aa.mN dT rfl rfl ?_|(refine aa.region dT rfl Κ rfl (by simp[Frame.enter]) λη I=>?_;(try simp);(repeat (refine g0 ?_;simp[cI,EO]));refine I _ ?_)));refine aa.exit dT rfl rfl ?_;exact aa.Zm rfl rfl rfl rfl Tryz.func140 rfl uD Θ
structure Pb (x:aU) (s:Nat) (sp:Spec):Prop where
 rel:x.rel=false
 aF:x.aF=λ_=>none
 spec:x.spec s=some sp
 top:sp.top<7
 shut:∀bq,bq≠s->fO (x.tok bq)
theorem Zz {x:aU} {H:ψ} (ζ:Pb x s sp) (dL:sp.D k ψ.empty) (j6:c.mode=.returning) (Θ:k0 Tryz.prog 0 (Go.Conc.G c rest)) :
  cq Tryz.prog Q false (bx x s (.ch k .done .work) v 0) (Frame.enter Tryz.prog 142 #[ptr s 0] .deferred) (c::rest) H:=by
 letI:bn:=eS;have U:∀t v d,Seq (one (bx x s t v d)):=λt v d=>Seq.uB trivial ζ.rel ζ.aF;have Υ:qg (yB x) s sp:=⟨rfl,ζ.spec,ζ.top,ζ.shut⟩;have μ:∀v d,eR (bx (yB x) s (.ch k .done .rel) v d):=λv d=>Υ.here (by simp);have Α:∀v d,eR (bx (yB x) s (.ch k .done .l2) v d):=λv d=>Υ.here (by simp);rw[n4 (body:=Tryz.f142.body.getD .skip) Tryz.func142 rfl];refine V.here (x:=one _) (m:=0) (nt:=4) (S:=e7) (B:=[]) (σ:=[]) (env:=entry 0 [.z (ptr s 0)]) ?_ (ff.enter (yw H) ⟨rfl,λi a v J γ=>?_⟩ (Nat.le_refl _) (by simp)) _ rfl
 ·refine V.a' (U _ _ _) rfl ?_;simp only[Tryz.f142,Option.getD_some]
  repeat first|apply aZ|apply wb|apply a3|apply wd
  refine W.cl ?_;refine W.part (A:=[]) Κ [0] [1] rfl λη I=>?_;(try simp);(repeat (rw[δ];simp));apply I;refine W.stop ?_;refine V.call (U _ _ _) ⟨rfl,rfl,by simp[Frame.enter],rfl⟩ rfl rfl rfl ⟨_,Tryz.func140,rfl,rfl⟩ λbB bG H1 t1 oW ν ω hv=>?_;obtain rfl:=mH (l:=[ptr s 0,.int .i64 (-1)]) hv;obtain rfl:bG=[]:=dp.1 ω.holds.len;rintro y rfl;refine V.p' (z:=one _) (vs:=[ptr s 0,.int .i64 (-1)]) Tryz.func140 rfl ω.holds (by simp[Tryz.ntmps140]) ?_ _ rfl;refine V.a' (U _ _ _) rfl ?_;(repeat (first|apply aZ|apply wb|apply a3|apply wd|refine al rfl ?_|refine aj rfl ?_|(refine ξ λη I=>?_;simp;(repeat (rw[δ];simp));apply I)));refine W.cl ?_;refine W.part (A:=[]) Κ [0] [1,2] rfl λη I=>?_;(try simp);(repeat (rw[δ];simp));apply I;refine W.stop ?_;refine V.conv (U _ _ _).here (sp:=sp) ζ.spec (by rw[b3];exact id) ⟨rfl,rfl,by simp[Frame.enter],rfl⟩ rfl rfl rfl II uE IJ rfl (λς w Γ bH=>⟨_,bH.cP⟩) (λφ ς ο=>?_);unfold h8;rw[j5];refine V.Gx ζ.rel (sp:=sp) ζ.spec (.inl rfl) ζ.shut dL ⟨⟨rfl,rfl,by simp[Frame.enter],rfl⟩,Oz,⟨_,rfl⟩,rfl,rfl,rfl⟩ (by simp) ?_;refine aa.bJ (bt (μ _ _)) rfl ?_;(repeat (first|refine aa.seq (bt (μ _ _)) rfl ?_|refine aa.block (bt (μ _ _)) rfl ?_|refine aa.inBlock (bt (μ _ _)) rfl ?_|refine aa.skip (bt (μ _ _)) rfl ?_|refine aa.mM (bt (μ _ _)) rfl rfl ?_|refine aa.mN (bt (μ _ _)) rfl rfl ?_|(refine aa.region (bt (μ _ _)) rfl Κ rfl (by simp[Frame.enter]) λη I=>?_;(try simp);(repeat (refine g0 ?_;simp[j6]));refine I _ ?_)));refine aa.cl (bt (μ _ _)) rfl ?_;refine aa.disable (μ _ _) ⟨⟨rfl,rfl,by simp[Frame.enter],rfl⟩,AW,⟨_,rfl⟩,rfl,rfl,rfl⟩ ?_;rw[AS];refine aa.bJ (bt (μ _ _)) rfl ?_;refine aa.cl (bt (μ _ _)) rfl ?_;refine aa.Iz (bt (μ _ _)) rfl ⟨rfl,rfl,by simp[Frame.enter],rfl⟩ rfl rfl rfl ?_;refine aa.bJ (bt (μ _ _)) rfl ?_;(repeat (first|refine aa.seq (bt (μ _ _)) rfl ?_|refine aa.block (bt (μ _ _)) rfl ?_|refine aa.inBlock (bt (μ _ _)) rfl ?_|refine aa.skip (bt (μ _ _)) rfl ?_|refine aa.mM (bt (μ _ _)) rfl rfl ?_|refine aa.mN (bt (μ _ _)) rfl rfl ?_|(refine aa.region (bt (μ _ _)) rfl Κ rfl (by simp[Frame.enter]) λη I=>?_;(try simp);(repeat (refine g0 ?_;simp[j6]));refine I _ ?_)));refine aa.cl (bt (μ _ _)) rfl ?_;refine aa.EB (bt (μ _ _)) rfl ⟨rfl,rfl,by simp[Frame.enter],rfl⟩ rfl rfl rfl OA ?_;refine aa.bJ (bt (μ _ _)) rfl ?_;(repeat (first|refine aa.seq (bt (μ _ _)) rfl ?_|refine aa.block (bt (μ _ _)) rfl ?_|refine aa.inBlock (bt (μ _ _)) rfl ?_|refine aa.skip (bt (μ _ _)) rfl ?_|refine aa.mM (bt (μ _ _)) rfl rfl ?_|refine aa.mN (bt (μ _ _)) rfl rfl ?_|(refine aa.region (bt (μ _ _)) rfl Κ rfl (by simp[Frame.enter]) λη I=>?_;(try simp);(repeat (refine g0 ?_;simp[j6]));refine I _ ?_)));refine aa.cl (bt (μ _ _)) rfl ?_;refine aa.part (bt (μ _ _)) rfl Κ rfl (by simp[Frame.enter]) [0,1,2,3,4,5] [6,7] rfl λη I=>?_;(repeat (refine g0 ?_;simp[Zp,Zn,Zo]));refine I _ ?_;refine aa.call (bt (μ _ _)) rfl ⟨rfl,rfl,by simp[Frame.enter],rfl⟩ rfl rfl (vs:=[ptr s 0,.int .u64 18446744069414584320]) rfl Tryz.func166 rfl rfl (by simp[Tryz.ntmps166]) λt2 wF dU=>?_;refine Zt Υ (λv=>μ v 1) id λφ ς ry=>?_;have χ:=ry.jf.sT;rw[b3] at χ;have fe:1<=ς.cnt:=χ.live;have gE:=Υ.EN ry.spec;have wB:=χ.cnt;have qH:=χ.wt;obtain⟨cc,ml⟩:∃cc,cc=ς.cnt-1:=⟨_,rfl⟩;have A9:ς.cnt<8/\0<ς.cnt/\cc<8/\ς.wt<2:=by omega
  have Pd:cN {ς with cnt:=cc}=IntKind.u64.wrap (cN ς+18446744069414584320):=by
   rw[uH,uH,Y2 ς.cnt A9.1 ς.wt A9.2.2.2 A9.2.1,ml]
  by_cases ig:ς.cnt=1/\ς.wt=1
  ·have kl:cc=0:=by omega
   refine⟨{ς with cnt:=cc},.ch k .done .l2,Pd,rfl,⟨rfl,rfl,rfl⟩,by rw[ml];exact .RV ig.1 ig.2,λcn et=>.inl ⟨λv=>Α v 1,?_⟩⟩;have qJ:cN {ς with cnt:=cc}=hZ 0 1:=by rw[uH,kl];simp only[ig.2]
   rw[qJ];refine aa.back rfl rfl wF dU ?_;refine aa.part (bt (Α _ _)) rfl Κ rfl (by simp[Frame.enter]) [7] [] rfl λη I=>?_;(repeat (refine g0 ?_;simp));refine I _ ?_;refine aa.bJ (bt (Α _ _)) rfl ?_;refine Zu Υ ?_ rfl rfl rfl rfl;exact aa.back (nt:=4) rfl rfl ω.size (A3 (by simp) ω.b6) (aa.bJ dT rfl (aa.O7 rfl rfl rfl rfl Tryz.func142 rfl j6 Θ))
  ·refine⟨{ς with cnt:=cc},.ch k .done .gone,Pd,rfl,⟨rfl,rfl,rfl⟩,by rw[ml];exact .RX (by omega),λcn et=>.inr ⟨Υ.gone,?_⟩⟩;have qJ:cN {ς with cnt:=cc}=hZ cc ς.wt:=rfl;rw[qJ];refine aa.back rfl rfl wF dU ?_;refine aa.part dT rfl Κ rfl (by simp[Frame.enter]) [7] [] rfl λη I=>?_;(repeat (refine g0 ?_;simp));refine I _ ?_;refine aa.bJ dT rfl ?_;refine Zq ?_ (cc:=cc) (w0:=ς.wt) A9.2.2.1 A9.2.2.2 (by omega) rfl rfl rfl rfl;exact aa.back (nt:=4) rfl rfl ω.size (A3 (by simp) ω.b6) (aa.bJ dT rfl (aa.O7 rfl rfl rfl rfl Tryz.func142 rfl j6 Θ))
 ·cases i with
  | zero=>simp at J γ;subst J;subst γ;exact .z _
  | succ i=>simp at J
end
end Go.TL
namespace Go.TL
open Go.Conc
open Go.ConcN (upd)
def rB (S:aC) (H:ψ):ψ:={H with aG:=λb o=>match S b o with|some v=>some (v,false)|none=>H.aG b o}
def mO (S:aC):ψ:=⟨λb o=>(S b o).map (·,false),λ_=>none,λ_=>none⟩
def aC.plus (S T:aC):aC:=λb o=>match S b o with|some v=>some v|none=>T b o
structure ny (β:Nat) (bB:aC) (E:ψ):Prop where
 aG:∀b o x,E.aG b o=some x->bB b o≠none\/β<b
 row:∀b x,E.row b=some x->β<b
 obj:∀b x,E.obj b=some x->β<b
def wG (r:Row):Prop:=∃t k l,r=.cells t k l
section
variable {S ay hD ee bB:aC} {B B':aP} {σ σ':List Row} {H H' dh E G:ψ} {β:Nat}
theorem A' {b o:Nat} {v:Value} (h:S b o=some v):(rB S H).aG b o=some (v,false):=by simp only[rB,h]
theorem I3 {b o:Nat} (h:S b o=none):(rB S H).aG b o=H.aG b o:=by simp only[rB,h]
theorem I4 {b o:Nat} {v:Value} (h:S b o=some v):(mO S).aG b o=some (v,false):=by simp only[mO,h];rfl
theorem ET {b o:Nat} {x:Value×Bool} (h:(mO S).aG b o=some x):∃v,S b o=some v/\x=(v,false):=by
 cases ο:S b o with
 | none=>simp[mO,ο] at h
 | some v=>exact⟨v,rfl,by simp[mO,ο] at h;exact h.symm⟩
theorem Ba {b o:Nat} {v:Value} (h:S b o=some v):S.plus hD b o=some v:=by simp only[aC.plus,h]
theorem EU {b o:Nat} (h:S b o=none):S.plus hD b o=hD b o:=by simp only[aC.plus,h]
theorem join_some {b o:Nat} {x:Value×Bool} (h:H.aG b o=some x):(join H E).aG b o=some x:=by simp only[join,h]
theorem join_none {b o:Nat} (h:H.aG b o=none):(join H E).aG b o=E.aG b o:=by simp only[join,h]
theorem ZA {b:Nat} {x:TypeId×Nat} (h:(join H E).row b=some x):H.row b=some x\/E.row b=some x:=by
 cases μ:H.row b with
 | none=>simp only[join,μ] at h;exact .inr h
 | some y=>simp only[join,μ] at h;exact .inl h
theorem ZB {b:Nat} {x:Obj} (h:(join H E).obj b=some x):H.obj b=some x\/E.obj b=some x:=by
 cases μ:H.obj b with
 | none=>simp only[join,μ] at h;exact .inr h
 | some y=>simp only[join,μ] at h;exact .inl h
theorem ZC (Β:Holds S [] [] H):Split H (rB S H) (mO S):=by
 refine⟨⟨λb o v p h=>?_,λb x h=>h,λb x h=>h⟩,⟨λb o v p h=>?_,λb x h=>(by cases h),λb x h=>(by cases h)⟩,⟨λb o ⟨v,h⟩ ⟨x,k⟩=>?_,λb o ⟨v,h⟩ _=>?_,λb _ ⟨x,h⟩=>(by cases h)⟩⟩
 ·cases ο:S b o with
  | some u=>
   rw[A' ο] at h;cases h;obtain⟨fv,ω⟩:=Β.dg b o _ ο;exact⟨fv,ω,λe=>by cases e⟩
  | none=>rw[I3 ο] at h;exact⟨p,h,id⟩
 ·obtain⟨u,ο,e⟩:=ET h;cases e;obtain⟨fv,ω⟩:=Β.dg b o _ ο;exact⟨fv,ω,λe=>by cases e⟩
 ·obtain⟨u,ο,e⟩:=ET k;rw[A' ο] at h;cases h
 ·obtain⟨u,ο,e⟩:=ET h;cases e
theorem ZD (Β:Holds S [] [] H):Holds S [] [] (rB S H):=
 ⟨λb o v h=>⟨false,A' h⟩,rfl,λid r bo h=>by simp at h,λi j ej b' b gM gN _ h=>by simp at h,λid r b N h=>by simp at h⟩
theorem ZE:Holds S [] [] (mO S):=
 ⟨λb o v h=>⟨false,I4 h⟩,rfl,λid r bo h=>by simp at h,λi j ej b' b gM gN _ h=>by simp at h,λid r b N h=>by simp at h⟩
theorem ZF (Β:Holds S [] [] H):Ext S [] H S [] (rB S H):=by
 refine⟨λ_ _ _ h=>h,λb _ _=>⟨λo=>?_,rfl,rfl⟩,λb h=>.inl h,λb o v h=>.inl h,λb h=>?_⟩
 ·cases ο:S b o with
  | none=>exact .inl (I3 ο)
  | some v=>
   obtain⟨p,ω⟩:=Β.dg b o v ο;exact .inr ⟨v,p,rfl,ω,A' ο⟩
 ·have key:∀b o,(rB S H).aG b o=none->H.aG b o=none:=λb o h=>by
   cases ο:S b o with
   | none=>rw[I3 ο] at h;exact h
   | some v=>rw[A' ο] at h;cases h
  exact⟨λo=>key b o (h.1 o),h.2.1,h.2.2.1,λΦ hb=>⟨λo=>key Φ o ((h.2.2.2 Φ hb).1 o),(h.2.2.2 Φ hb).2⟩⟩
theorem Holds.pE (Β:Holds S B σ H) (ν:∀b,¬H.fresh b->kn H H' b) (Υ:∀b,H'.fresh b->H.fresh b):Holds S B σ H'/\Ext S B H S B H':=by
 have CL:∀b o x,H.aG b o=some x->¬H.fresh b:=λb o x h Τ=>by rw[Τ.1 o] at h;cases h
 refine⟨⟨λb o v h=>?_,Β.len,λid r bo μ eZ=>?_,Β.inj,Β.sep⟩,⟨λ_ _ _ h=>h,λb _ Τ=>m8.of (ν b Τ),λb h=>.inl h,λb o v h=>.inl h,Υ⟩⟩
 ·obtain⟨p,ω⟩:=Β.dg b o v h;exact⟨p,by rw[(ν b (CL b o _ ω)).1];exact ω⟩
 ·by_cases fe:r.live
  ·refine(Β.row id r bo μ eZ).later (bZ.refl S B σ) (λb N e=>ν b (Β.nS μ fe (by rw[eZ,e]))) λm left cur e=>?_;subst e;obtain⟨_,_,aT,kI,xs,clock,seen,_,J,⟨es,γ⟩,_⟩:=Β.row id _ bo μ eZ;exact⟨rfl,rfl,λb N hb=>ν b (Β.nS γ trivial hb)⟩
  ·cases r<;>first|exact absurd trivial fe|trivial
theorem Ext.pE (h:Ext e7 [] H ay [] H') {b:Nat} (Τ:¬H.fresh b):kn H H' b:=(h.fF b (λ⟨N,x⟩=>by simp at x) Τ).pE λ_=>rfl
theorem Pe {w:World} (cX:Fits H w) (de:Fits E w) {b o:Nat} {u v:Value} {p q:Bool} (h:H.aG b o=some (u,p)) (k:E.aG b o=some (v,q)):u=v:=by
 have J:=cX.aG b o u p h;rw[de.aG b o v q k] at J;exact(Option.some.inj J).symm
theorem ZG {w:World} (cX:Fits H w) (de:Fits E w) (iG:Apart H E) {b N:Nat} {t:TypeId} (μ:E.row b=some (t,N)) (Γ:∀o,o<N->∃v,E.aG b o=some (v,true)):(∀o,H.aG b o=none)/\kn E (join H E) b:=by
 obtain⟨c,J,γ⟩:=de.row b t N μ;have Ι:∀o,H.aG b o=none:=λo=>by
  cases U:H.aG b o with
  | none=>rfl
  | some x=>
   have ζ:=cX.aG b o x.1 x.2 U;by_cases aH:o<N
   ·exact absurd ⟨x,U⟩ (iG.qw b o (Γ o aH))
   ·simp only[World.cell?,J] at ζ;simp[γ,aH] at ζ
 refine⟨Ι,λo=>join_none (Ι o),?_,?_⟩
 ·cases U:H.row b with
  | none=>simp only[join,U]
  | some x=>
   obtain⟨c',π,Μ⟩:=cX.row b x.1 x.2 U;rw[J] at π;cases π;simp only[join,U,μ];obtain⟨vx,nR⟩:=x
   simp_all
 ·cases U:H.obj b with
  | none=>simp only[join,U]
  | some x=>
   obtain⟨π,Μ⟩:=cX.obj b x U;rw[J] at π;cases π;simp[Obj.rS] at Μ
theorem Pf (Β:Holds S [] [] H) (de:Holds hD B σ E) (iG:Apart H E) (hw:∃w,Fits H w/\Fits E w) (lG:∀r∈σ,wG r) :
  Holds (S.plus hD) B σ (join H E)/\bZ S (S.plus hD) [] B [] σ/\bZ hD (S.plus hD) B B σ σ:=by
 obtain⟨w,cX,gf⟩:=hw;have st:∀b o v,hD b o=some v->S.plus hD b o=some v:=λb o v h=>by
  cases ο:S b o with
  | none=>rw[EU ο];exact h
  | some u=>
   obtain⟨p,ω⟩:=Β.dg b o u ο;obtain⟨q,Χ⟩:=de.dg b o v h;rw[Ba ο,Pe cX gf ω Χ]
 have l1:bZ S (S.plus hD) [] B [] σ:=⟨λb o v h=>Ba h,λid r h=>by simp at h⟩
 have l2:bZ hD (S.plus hD) B B σ σ:=⟨st,λid r h=>⟨r,h,r.tI _⟩⟩
 have mine:∀(id:Nat) (r:Row) (b N:Nat),σ[id]?=some r->B[id]?=some (some (b,N))->(∀o,H.aG b o=none)/\kn E (join H E) b:=λid r b N μ hb=>by
  obtain⟨t,k,l,rfl⟩:=lG r (cv μ);obtain⟨Ε,_,Ζ,_⟩:=de.row id _ _ μ hb;exact ZG cX gf iG Ε Ζ
 refine⟨⟨λb o v h=>?_,de.len,λid r bo μ eZ=>?_,de.inj,λid r b N μ fe eZ o=>?_⟩,l1,l2⟩
 ·cases ο:S b o with
  | some u=>
   rw[Ba ο] at h;cases h;obtain⟨p,ω⟩:=Β.dg b o _ ο;exact⟨p,join_some ω⟩
  | none=>
   rw[EU ο] at h;obtain⟨p,ω⟩:=de.dg b o v h;cases U:H.aG b o with
   | none=>exact⟨p,by rw[join_none U];exact ω⟩
   | some x=>
    obtain⟨u,q⟩:=x;have:=Pe cX gf U ω;subst this;exact⟨q,join_some U⟩
 ·refine(de.row id r bo μ eZ).later l2 (λb N e=>(mine id r b N μ (by rw[eZ,e])).2) λm left cur e=>?_;subst e;obtain⟨t,k,l,e⟩:=lG _ (cv μ);cases e
 ·have J:=(mine id r b N μ eZ).1 o;cases ο:S b o with
  | some u=>
   obtain⟨p,ω⟩:=Β.dg b o u ο;rw[J] at ω;cases ω
  | none=>rw[EU ο];exact de.sep id r b N μ fe eZ o
theorem I5 {o:Nat} {x:Value×Bool} (ν:G.aG β o=some x) {b:Nat} (Τ:G.fresh b):β<b:=by
 by_cases e:β<b
 ·exact e
 ·rcases Nat.lt_or_ge b β with h|h
  ·have:=(Τ.2.2.2 β h).1 o;rw[ν] at this;cases this
  ·obtain rfl:β=b:=by omega
   rw[Τ.1 o] at ν;cases ν
theorem I6 {b:Nat} (Τ:G.fresh β) (h:β<b):G.fresh b:=
 ⟨(Τ.2.2.2 b h).1,(Τ.2.2.2 b h).2.1,(Τ.2.2.2 b h).2.2,λΦ dG=>Τ.2.2.2 Φ (Nat.lt_trans h dG)⟩
theorem ZH (gi:∀b o v,S b o=some v->bB b o≠none\/β<b):ny β bB (mO S):=
 ⟨λb o x h=>let ⟨v,J,_⟩:=ET h;gi b o v J,λb x h=>(by cases h),λb x h=>(by cases h)⟩
theorem ny.join (h:ny β bB G) (k:ny β bB E):ny β bB (join G E):=by
 refine⟨λb o x U=>?_,λb x U=>(ZA U).elim (h.row b x) (k.row b x),λb x U=>(ZB U).elim (h.obj b x) (k.obj b x)⟩;cases Υ:G.aG b o with
 | none=>rw[join_none Υ] at U;exact k.aG b o x U
 | some y=>exact h.aG b o y Υ
theorem ny.ext (h:ny β bB G) {G':ψ} (he:Ext S B G ay B' G') (fb:∀b,B.has b->β<b) {o:Nat} {x:Value×Bool} (ν:G.aG β o=some x):ny β bB G':=by
 have key:∀b,¬β<b->m8 S G G' b:=λb hb=>he.fF b (λk=>hb (fb b k)) λk=>hb (I5 ν k);refine⟨λb o x U=>?_,λb x U=>?_,λb x U=>?_⟩
 ·by_cases hb:β<b
  ·exact .inr hb
  ·rcases(key b hb).1 o with e|⟨v,p,_,e,_⟩
   ·rw[e] at U;exact h.aG b o x U
   ·exact h.aG b o _ e
 ·by_cases hb:β<b
  ·exact hb
  ·rw[(key b hb).2.1] at U;exact h.row b x U
 ·by_cases hb:β<b
  ·exact hb
  ·rw[(key b hb).2.2] at U;exact h.obj b x U
theorem Pg {G':ψ} (he:Ext S B G ay B' G') (fb:¬B.has β) (ν:∃o x,G.aG β o=some x):∃o x,G'.aG β o=some x:=by
 obtain⟨o,x,U⟩:=ν;rcases(he.fF β fb (λΤ=>by rw[Τ.1 o] at U;cases U)).1 o with e|⟨v,p,_,_,e⟩
 ·exact⟨o,x,by rw[e];exact U⟩
 ·exact⟨o,_,e⟩
theorem ny.blocks (h:ny β bB E) (de:Holds hD B σ E) (lG:∀r∈σ,wG r) {b:Nat} (hb:B.has b):β<b:=by
 obtain⟨N,ck⟩:=hb;obtain⟨id,bS⟩:=List.getElem?_of_mem ck;have aH:id<σ.length:=by rw[<-de.len];exact(b7.1 bS).1
 have μ:=a2 aH;obtain⟨t,k,l,e⟩:=lG _ (cv μ);rw[e] at μ;exact h.row b _ (de.row id _ _ μ bS).1
theorem ZI (he:Ext ee [] dh S [] H) (gi:∀b o v,bB b o=some v->S b o=some v) (Τ:dh.fresh β) (hi:ny β bB E) (Β:Holds S [] [] H) (de:Holds hD B σ E) (lG:∀r∈σ,wG r) :
  Ext ee [] dh (S.plus hD) B (join H E):=by
 have x2:∀b,¬aP.has ([]:aP) b:=λb ⟨N,h⟩=>by simp at h
 have old:∀b,¬dh.fresh b->¬β<b:=λb h k=>h (I6 Τ k)
 have same:∀b,¬β<b->∀o,(join H E).aG b o=H.aG b o:=λb hb o=>by
  cases U:H.aG b o with
  | some x=>rw[join_some U]
  | none=>
   rw[join_none U];cases Ο:E.aG b o with
   | none=>rfl
   | some y=>
    rcases hi.aG b o y Ο with k|k
    ·cases ο:bB b o with
     | none=>exact absurd ο k
     | some v=>
      obtain⟨p,ω⟩:=Β.dg b o v (gi b o v ο);rw[U] at ω;cases ω
    ·exact absurd k hb
 refine⟨λb o v h=>Ba (he.dg b o v h),λb _ oH=>?_,λb hb=>.inr (I6 Τ (hi.blocks de lG hb)),λb o v h=>?_,λb h=>he.grow b ?_⟩
 ·have hb:=old b oH;obtain⟨k1,cy,ra⟩:=he.fF b (x2 b) oH;refine⟨λo=>by rw[same b hb o];exact k1 o,?_,?_⟩
  ·cases U:E.row b with
   | none=>rw[<-cy];simp only[join,U];cases H.row b<;>rfl
   | some x=>exact absurd (hi.row b x U) hb
  ·cases U:E.obj b with
   | none=>rw[<-ra];simp only[join,U];cases H.obj b<;>rfl
   | some x=>exact absurd (hi.obj b x U) hb
 ·cases ο:S b o with
  | some u=>rw[Ba ο] at h;cases h;exact he.qP b o _ ο
  | none=>
   rw[EU ο] at h;obtain⟨p,ω⟩:=de.dg b o v h;rcases hi.aG b o _ ω with k|k
   ·cases rz:bB b o with
    | none=>exact absurd rz k
    | some u=>rw[gi b o u rz] at ο;cases ο
   ·exact .inr (.inr (I6 Τ k))
 ·have c:∀b o,(join H E).aG b o=none->H.aG b o=none:=λb o h=>by
   cases U:H.aG b o with
   | none=>rfl
   | some x=>rw[join_some U] at h;cases h
  have r:∀b,(join H E).row b=none->H.row b=none:=λb h=>by
   cases U:H.row b with
   | none=>rfl
   | some x=>simp only[join,U] at h;cases h
  have o:∀b,(join H E).obj b=none->H.obj b=none:=λb h=>by
   cases U:H.obj b with
   | none=>rfl
   | some x=>simp only[join,U] at h;cases h
  exact⟨λo'=>c b o' (h.1 o'),r b h.2.1,o b h.2.2.1,λΦ hb=>⟨λo'=>c Φ o' ((h.2.2.2 Φ hb).1 o'),r Φ (h.2.2.2 Φ hb).2.1,o Φ (h.2.2.2 Φ hb).2.2⟩⟩
end
end Go.TL
namespace Go.TL
open Go.Conc Go.Proofs
open Go.ConcN (sumTo upd sumTo_upd upd_ne upd_same sumTo_congr le_sumTo)
noncomputable def under (P:Program):Frame:={(default:Frame) with fn:=P.funcs.size,defers:=[],mode:=.panicking [goexitEntry]}
theorem ZJ {P:Program} {g:FuncId} {cap:Array Value} (Υ:Plain P g) (w:World):stepG P false (born P ⟨.fn (.func g) cap,#[]⟩) w=.go (Go.Conc.G (Frame.enter P g cap .deferred) [under P]) w #[]:=by
 obtain⟨fn,J,γ,π⟩:=Υ;have hn:¬fn.name = "runtime.NumGoroutine" := by simpa using γ
 have ZK:¬fn.body=none:=by intro e;rw[e] at π;cases π
 simp[born,stepG,unwind,callDeferred,invoke,callFunc,J,hn,ZK,seen,GStep.after,Go.Conc.G,under]
theorem ZL {P:Program} {b:Frame} {fn:Func} (bY:P.funcs[b.fn]?=some fn) (eY:fn.results=#[]) (eo:b.defers=[]) (hm:b.mode=.returning) (χ:b.kind=.deferred):k0 P 0 (Go.Conc.G b [under P]):=by
 refine⟨2,QuitsD.ctl (g':=Go.Conc.G (under P) []) rfl (λw=>?_) ?_⟩
 ·simp[Go.Conc.G,stepG,unwind,hm,eo,bY,doReturn,results,eY,χ,under,seen,GStep.after,goexitEntry]
 ·refine QuitsD.ctl (g':={Go.Conc.G (under P) [] with status:=.finished}) rfl (λw=>?_) ⟨rfl,rfl⟩;simp[Go.Conc.G,stepG,unwind,under,goexitEntry,Frame.catches];rfl
def sV (l:List θ):θ:=if l.isEmpty then .sl true 0 [] else .ms 1 l.length 0 l.length
def gF (l:List θ):List Row:=.cells 99 1 [sV l]::aL 110 3 l
theorem I7:sV []=.sl true 0 []:=rfl
theorem EV {l:List θ} (h:l≠[]):sV l=.ms 1 l.length 0 l.length:=by unfold sV;rw[if_neg (by simpa using h)]
theorem Ph {l:List θ} {x:θ}:sV (l++[x])=.ms 1 (l.length+1) 0 (l.length+1):=by rw[EV (by simp)];simp
theorem EW (l:List θ):∀r∈gF l,wG r:=by
 intro r h;unfold gF aL at h;rcases List.mem_cons.1 h with rfl|h
 ·exact⟨_,_,_,rfl⟩
 ·split at h
  ·cases h
  ·simp at h;subst h;exact⟨_,_,_,rfl⟩
def wH (β:Nat) (bB:aC) (o:Nat) (fd:Nat->Option Found) (L:List Nat) (E:ψ):Prop:=
 ny β bB E/\∃S B,Holds S B (gF ((L.filterMap fd).map db)) E/\B[0]?=some (some (o,1))
theorem ZM {S ay:aC} {B B':aP} {l dV:List θ} {m:Nat} (h:bZ S ay (B.take m) B' ((gF l).take m) (gF dV)) (hm:0<m):B'[0]?=B[0]?:=by
 obtain⟨m,rfl⟩:∃k,m=k+1:=⟨m-1,by omega⟩;obtain⟨r',J,γ⟩:=h.rows 0 (.cells 99 1 [sV l]) (by simp[gF]);have:r'=.cells 99 1 [sV dV]:=by simpa[gF] using J.symm
 subst this;rcases γ with⟨l2,_,_,π⟩|π
 ·simpa[List.getElem?_take] using π
 ·have:=π 1 (by simp);simp[Row.g9] at this
section
variable {β s m o k:Nat} {S bB:aC} {fd:Nat->Option Found} {sp:Spec} {dX:aR} {a b:Int} {v1 v2 wI:Value} {f:Found} {n:Nat}
abbrev lS (s:Nat) (sp:Spec):aU:=⟨ψ.empty,λ_=>none,λ_=>.nil,upd (λ_=>none) s (some sp),λ_=>none,0,false⟩
abbrev EX (s m o:Nat) (v1 v2 wI:Value):Array Value:=#[ptr s 0,v1,v2,wI,ptr m 0,ptr o 0]
abbrev I8 (s m o:Nat) (dX:aR) (a b:Int):List θ:=[.z (ptr s 0),.ad [aQ dX.ai,aN dX.ao,bl dX.cells],.ad [R a],.ad [R b],.z (ptr m 0),.z (ptr o 0)]
theorem Pj:(lS s sp).spec s=some sp:=upd_same (λ_=>(none:Option Spec)) s (some sp)
theorem Pk (fq:sp.aT=some m) (gE:sp.top<7):jh (lS s sp) s m sp:=⟨rfl,rfl,Pj,fq,gE,λ_ _=>trivial⟩
theorem ZN (gE:sp.top<7):Pb (lS s sp) s sp:=⟨rfl,rfl,Pj,gE,λ_ _=>trivial⟩
theorem ZO (fq:sp.aT=some m) (gE:sp.top<7) (dL:sp.D k ψ.empty) {Q:Value->Prop} {c:Frame} {H:ψ} {v:Option (Nat×aM)} {d1:Deferred} (j2:v5 Tryz.prog d1 142 #[ptr s 0])
  (hm:c.mode=.returning) (eo:c.defers=[d1]) (χ:c.kind=.deferred) (bY:c.fn=141):cq Tryz.prog Q false (bx (lS s sp) s (.ch k .done .work) v 0) c [under Tryz.prog] H:=by
 letI:bn:=eS;have U:Seq (one (bx (lS s sp) s (.ch k .done .work) v 0)):=Seq.uB trivial rfl rfl;refine aE.deferred (x:=one _) U (by rw[hm];simp) eo j2.t1 j2.t2 j2.run (λy Ο=>?_) _ rfl;cases Ο;refine Zz (ZN gE) dL hm ?_;exact ZL (fn:=Tryz.f141) (by rw[bY];exact Tryz.func141) rfl rfl hm χ
theorem ZP (fq:sp.aT=some m) (gE:sp.top<7) (dn:sp.aI=wH β bB o fd) (dL:sp.D k ψ.empty) {Q:Value->Prop} {c:Frame} {jH:aC} {jI:aP} {hO:ψ} {L:List Nat} {v:Option (Nat×aM)} {d1 d2:Deferred}
  (j2:v5 Tryz.prog d1 142 #[ptr s 0]) (nz:v5 Tryz.prog d2 145 #[ptr m 0]) (hm:c.mode=.returning) (eo:c.defers=[d2,d1]) (χ:c.kind=.deferred) (bY:c.fn=141)
  (Β:Holds jH jI (gF (((L++[k]).filterMap fd).map db)) hO) (fb:jI[0]?=some (some (o,1))) (hi:ny β bB hO) (ν:∃q x,hO.aG β q=some x) :
  cq Tryz.prog Q false (bx (lS s sp) s (.ch k (.dj L) .work) v 0) c [under Tryz.prog] hO:=by
 letI:bn:=eS;have U:Seq (one (bx (lS s sp) s (.ch k (.dj L) .work) v 0)):=Seq.uB trivial rfl rfl;refine aE.deferred (x:=one _) U (by rw[hm];simp) eo nz.t1 nz.t2 nz.run (λy Ο=>?_) _ rfl;cases Ο;refine Y0 (x:=lS s sp) (s:=s) (c:={c with defers:=[d1]}) (Pk fq gE) Β hm λjF jG he kC=>⟨ψ.empty,jG,⟨Sub.empty _,Sub.refl _,(Apart.tv _).symm⟩,?_,λv2 gn fB _=>?_⟩
 ·rw[dn];obtain⟨dP,p2,p3⟩:=Β.back he kC;obtain⟨q,x,Χ⟩:=ν;exact⟨hi.ext he (λb ⟨N,h⟩=>by simp at h) Χ,jF,jI,dP,fb⟩
 ·exact ZO fq gE dL j2 hm rfl χ bY
end
section
variable {β s m o k:Nat} {S bB:aC} {fd:Nat->Option Found} {sp:Spec} {dX:aR} {a b:Int} {v1 v2 wI:Value} {f:Found} {n:Nat}
noncomputable abbrev ZQ (vs:Array Value) (ds:List Deferred):Frame:={Frame.enter Tryz.prog 141 vs .deferred with defers:=ds}
noncomputable def EY:Code:=Tryz.f141.body.getD .skip
theorem ZR (fq:sp.aT=some m) (gE:sp.top<7) (dn:sp.aI=wH β bB o fd) (dL:sp.D k ψ.empty) (I9:∀c:bn,@az c Tryz.prog 78 [db f,R (-1)] (R n)) (yC:fd k=if 0<n then some f else none) {Q:Value->Prop}
  {ay:aC} {H' E:ψ} {L:List Nat} (Β:Holds ay [] [] H') (de:sp.aI L E) (iG:Apart H' E) (hw:∃w,Fits H' w/\Fits E w) (hlen:((L.filterMap fd).map db).length<=4294967295) (oJ:ny β bB H') (ZS:∃q x,H'.aG β q=some x)
  {t:Array Value} (ο:cY ay [] [] [(4,.z (ptr m 0)),(5,.z (ptr o 0)),(6,.ad (db f).cells)] t) (cp:t.size=20) {vs:Array Value} {d1:Deferred} (j2:v5 Tryz.prog d1 142 #[ptr s 0]) {ops:Array Oper} :
  cq Tryz.prog Q false (bx (lS s sp) s (.ch k (.dj L) .work) none 0) (au (ZQ vs [d1]) t [.inRegion ops [],.code (dJ [1,1,1] EY)]) [under Tryz.prog] (join H' E):=by
 letI:bn:=eS;have U:Seq (one (bx (lS s sp) s (.ch k (.dj L) .work) none 0)):=Seq.uB trivial rfl rfl;rw[dn] at de;obtain⟨hi,hD,rC,wJ,fb⟩:=de;obtain⟨l,Α⟩:∃l,l=(L.filterMap fd).map db:=⟨_,rfl⟩;have kK:l.length<=4294967295:=Α▸hlen;rw[<-Α] at wJ;obtain⟨I',l1,l2⟩:=Pf Β wJ iG hw (EW l);have jg:∀b,rC.has b->β<b:=λb=>hi.blocks wJ (EW l);have Ja:∃q x,(join H' E).aG β q=some x:=let ⟨q,x,h⟩:=ZS;⟨q,x,join_some h⟩;have aB:t.getD 5 undef=ptr o 0:=by
  have:=ο 5;generalize t.getD 5 undef=u at this;cases this;rfl
 have rz:cY (ay.plus hD) rC (gF l) [(4,.z (ptr m 0)),(5,.Ψ 0 1 0 0),(6,.ad (db f).cells)] t:=λi=>by
  have ah:=(ο i).later l1;simp only[a5] at ah ⊢;by_cases cD:4=i
  ·simpa[cD] using ah
  by_cases eN:5=i
  ·subst eN;simp only[show ¬4=5 by decide,if_false,if_true];rw[aB];have:=ar.Ψ (S:=ay.plus hD) (B:=rC) (σ:=gF l) (id:=0) (n:=1) (i:=0) (j:=0) (k:=1) (t:=99) (l:=[sV l]) (b:=o) (N:=1) (by simp[gF]) rfl fb;simpa using this
  ·simpa[cD,eN] using ah
 have leave:∀(dV:List θ) (gn:aC) (gP:aP) (fB:ψ) (c:Frame) (d2:Deferred),dV=((L++[k]).filterMap fd).map db->eJ 1 (ay.plus hD) rC (join H' E) (gF l) gn gP fB (gF dV)->Holds gn gP (gF dV) fB->v5 Tryz.prog d2 145 #[ptr m 0]->
   c.mode=.returning->c.defers=[d2,d1]->c.kind=.deferred->c.fn=141->cq Tryz.prog Q false (bx (lS s sp) s (.ch k (.dj L) .work) none 0) c [under Tryz.prog] fB:=λdV gn gP fB c d2 e bU Jb nz c1 c2 c3 c4=>by
  subst e;obtain⟨q,x,Χ⟩:=Ja;exact ZP fq gE dn dL j2 nz c1 c2 c3 c4 Jb (by rw[ZM bU.later (by omega)];exact fb) ((oJ.join hi).ext bU.ext jg Χ) (Pg bU.ext (λh=>Nat.lt_irrefl _ (jg β h)) ⟨q,x,Χ⟩)
 refine V.here (x:=one _) (m:=1) (nt:=20) (S:=ay.plus hD) (B:=rC) (σ:=gF l) (env:=[(4,.z (ptr m 0)),(5,.Ψ 0 1 0 0),(6,.ad (db f).cells)]) ?_ ⟨I',rz,cp,by simp[gF]⟩ _ rfl;refine V.a' U rfl ?_;refine W.bJ ?_;simp only[EY,Tryz.f141,Option.getD_some,dJ]
 repeat first|apply aZ|apply wb|apply a3|apply wd
 refine W.cl (.stop ?_);refine V.defer U rfl rfl rfl rfl rfl rfl rfl ⟨_,Tryz.func145,rfl,rfl⟩ λjH jI hO t3 d2 IY fT ey sE nz=>?_;obtain rfl:=mH (l:=[ptr m 0]) sE;rintro y rfl;refine V.here (x:=one _) (m:=1) (nt:=20) ?_ ey _ rfl;refine V.a' U rfl ?_;refine W.bJ ?_;(repeat (first|apply aZ|apply wb|apply a3|apply wd));refine ξ λη I=>?_;simp;(repeat (rw[δ];simp));refine az.c (I9 _) (aK.refl _) (by simp) (by simp) ?_;simp;(repeat (rw[δ];simp));apply I;by_cases Ι:0<n
 ·refine al (by simp[Ι]) ?_;refine W.fC (A:=[19]) Κ [] (gF (l++[db f])) (.stop ?_) (by
   by_cases Η:l=[]
   ·subst Η;(try simp);(repeat (rw[δ];simp[gF,I7,h6]));(try simp[gF,I7,h6]);exact⟨rfl,rfl⟩
   ·(try simp);(repeat (rw[δ];simp[gF,EV Η,c8 Η,Ph,sH]));(try simp[gF,EV Η,c8 Η,Ph,sH]);exact kK)
  intro gn gP fB t5 fM hg;refine aE.sa U rfl rfl ?_;rintro y rfl;exact leave _ gn gP fB _ d2 (by rw[List.filterMap_append,List.map_append,<-Α];simp[yC,Ι]) (fT.trans fM) hg.holds nz rfl rfl rfl rfl
 ·refine aj (by simp;omega) ?_
  repeat first|apply aZ|apply wb|apply a3|apply wd
  refine W.stop ?_;intro gn gP fB t5 fM hg;refine aE.sa U rfl rfl ?_;rintro y rfl;exact leave _ gn gP fB _ d2 (by rw[List.filterMap_append,List.map_append,<-Α];simp[yC,Ι]) (fT.trans fM) hg.holds nz rfl rfl rfl rfl
theorem rD {S:aC} {B:aP} {σ:List Row} {env env':Ω} {t:Array Value} (h:cY S B σ env t) (ο:∀p∈env',a5 env p.1=p.2):cY S B σ env' t:=by
 induction env' with
 | nil=>exact λi=>.cz _
 | cons p l Δ=>
  intro i;simp only[a5];split
  ·rename_i e;have:=ο p (by simp);rw[<-this,e];exact h i
  ·exact Δ (λq Χ=>ο q (by simp[Χ])) i
theorem ZT (fq:sp.aT=some m) (gE:sp.top<7) (dn:sp.aI=wH β bB o fd) (dL:sp.D k ψ.empty) (ZU:∀c:bn,@az c Tryz.prog 143 [d' dX,aA (a,b)] (db f))
  (I9:∀c:bn,@az c Tryz.prog 78 [db f,R (-1)] (R n)) (yC:fd k=if 0<n then some f else none) (ZV:∀L:List Nat,L.Nodup->((L.filterMap fd).map db).length<=4294967295)
  (ν:∃q v,S β q=some v) (gi:∀b q v,S b q=some v->bB b q≠none\/β<b) (Jc:fg S [] [] (I8 s m o dX a b) (EX s m o v1 v2 wI)) {Q:Value->Prop} :
  Goes Tryz.prog Q false (born Tryz.prog ⟨.fn (.func 141) (EX s m o v1 v2 wI),#[]⟩) {bx (lS s sp) s (.ch k .idle .work) none 0 with G:=mO S}:=by
 letI:bn:=eS;have uJ:Seq (one (bx (lS s sp) s (.ch k .idle .work) none 0)):=Seq.uB trivial rfl rfl;refine Quiet.goes (.cons ⟨rfl,rfl⟩ (λw=>ZJ ⟨_,Tryz.func141,rfl,rfl⟩ w) (.nil _)) (.inl rfl) ⟨rfl,rfl⟩ ?_;show cq Tryz.prog Q false (bx (lS s sp) s (.ch k .idle .work) none 0) (Frame.enter Tryz.prog 141 (EX s m o v1 v2 wI) .deferred) [under Tryz.prog] (mO S);rw[n4 (body:=EY) Tryz.func141 rfl];refine V.here (x:=one _) (m:=0) (nt:=20) (S:=S) (B:=[]) (σ:=[]) (env:=entry 0 (I8 s m o dX a b)) ?_ (ff.enter ZE Jc (Nat.le_refl _) (by simp)) _ rfl;refine V.a' uJ rfl ?_;simp only[EY,Tryz.f141,Option.getD_some]
 repeat first|apply aZ|apply wb|apply a3|apply wd
 refine W.cl (.stop ?_);refine V.defer uJ rfl rfl rfl rfl rfl rfl rfl ⟨_,Tryz.func142,rfl,rfl⟩ λjH jI hO t3 d1 IY fT ey sE j2=>?_;obtain rfl:=mH (l:=[ptr s 0]) sE;obtain rfl:jI=[]:=dp.1 ey.holds.len;rintro y rfl;refine V.here (x:=one _) (m:=0) (nt:=20) ?_ ey _ rfl;refine V.a' uJ rfl ?_;refine W.bJ ?_;(repeat (first|apply aZ|apply wb|apply a3|apply wd));refine c7 (A:=[6]) Κ λη I=>?_;simp;(repeat (rw[δ];simp));refine az.c (ZU _) (aK.refl _) (by simp) (by simp) ?_;simp;(repeat (rw[δ];simp));apply I;refine W.fix (id:=0) (σ':=[]) (Nat.zero_le _) rfl (by simp) (by simp) rfl [(4,.z (ptr m 0)),(5,.z (ptr o 0)),(6,.ad (db f).cells)] (by simp[entry]) ?_
 repeat first|apply aZ|apply wb|apply a3|apply wd
 refine W.cl (.stop ?_);refine V.call uJ ⟨rfl,rfl,by simp[Frame.enter],rfl⟩ rfl rfl rfl ⟨_,Tryz.func144,rfl,rfl⟩ λjF oX jG t4 YZ sD pZ IN=>?_;obtain rfl:=mH (l:=[ptr m 0]) IN;obtain rfl:oX=[]:=dp.1 pZ.holds.len;rintro y rfl;refine YS (Pk fq gE) pZ.holds λgn fB L E Pl Jb de iG ⟨ko,Lq,hw⟩=>?_;rw[ij rfl];have q5:Ext S [] (mO S) gn [] fB:=fT.ext.trans (sD.ext.trans Pl);obtain⟨hJ,u0,sW⟩:=ν;have jg:∀b,¬aP.has ([]:aP) b:=λb ⟨N,h⟩=>by simp at h
 exact ZR fq gE dn dL I9 yC Jb de iG hw (ZV L ko) ((ZH gi).ext q5 (λb h=>absurd h (jg b)) (I4 sW)) (Pg q5 (jg β) ⟨hJ,_,I4 sW⟩)
  (by
   refine cY.later (rD (pZ.put (a:=.z (.tuple #[])) rfl (.z _)).b6 (by simp[ca])) ⟨Pl.dg,λid r h=>by simp at h⟩) (pZ.put (a:=.z (.tuple #[])) rfl (.z _)).size j2
end
end Go.TL
namespace Go.TL
open Go.Conc Go.Proofs
variable [bn]
noncomputable abbrev ZW (vs:Array Value):Frame:=Frame.enter Tryz.prog 126 vs .normal
abbrev qh (L:Nat):θ:=.fn (.yield L) [] []
structure ZX (Q:Value->Prop) (mn:Bool) (x:gL) (cs:List Frame) (uK:Frame) (o:Base) (L:Nat) (r:Loop) (n:Nat) (ji jj:Row) (Fnd:List (List Nat)->Prop):Prop where
 m:o.m=2
 cK:ek 2 ji
 bP:ek 2 jj
 cS:r.params.size=1
 round:∀(l:List Nat) (rem:List (List Nat)),Fnd (l::rem)->l.length<=n->(∀x∈l,x<n)->∀(S:aC) (B:aP) (H:ψ) (ws:Array Value) (c:Frame),eJ 2 o.S o.B o.H o.σ S B H [ji,jj,dQ l]->Holds S B [ji,jj,dQ l] H->¬B.has L->H.obj L=some (.loop r)->fg S B [ji,jj,dQ l] [.ms 2 l.length 0 l.length] ws->
  (Fnd rem->∀(ay:aC) (B':aP) (H':ψ),eJ 2 o.S o.B o.H o.σ ay B' H' [ji,jj,dQ l]->bZ S ay B B' [ji,jj,dQ l] [ji,jj,dQ l]->Holds ay B' [ji,jj,dQ l] H'->¬B'.has L->H'.obj L=some (.loop r)->aE Tryz.prog Q mn x (c.finish (.bool true)) (uK::cs) H')->
  (∀H',(∀(cU:aC) (bO:ψ),Ext e7 [] H' cU [] bO->aE Tryz.prog Q mn x (uK.finish (.tuple #[])) cs bO)->aE Tryz.prog Q mn x (c.finish (.bool false)) (uK::cs) H')->
  aE Tryz.prog Q mn x (Frame.round L r.fn ((r.params.zip ws).foldl (λtmps (t,a)=>tmps.setIfInBounds t a) r.tmps) r.assign r.body .normal) (c::uK::cs) H
 done:Fnd []->∀(S:aC) (B:aP) (H:ψ),eJ 2 o.S o.B o.H o.σ S B H [ji,jj]->Holds S B [ji,jj] H->¬B.has L->H.obj L=some (.loop r)->aE Tryz.prog Q mn x (uK.finish (.tuple #[])) cs H
def rE (c i:Nat):List Int:=(List.range i).map (λj:Nat=>(j:Int))++List.replicate (c-i) 0
theorem ZY {c i:Nat} (h:i<c):(rE c i).set i (i:Int)=rE c (i+1):=by
 unfold rE;have Ε:((List.range i).map λj:Nat=>(j:Int)).length=i:=by simp
 have Ζ:c-i=(c-(i+1))+1:=by omega
 rw[List.set_append_right _ _ (by omega),Ε,Nat.sub_self,Ζ,List.replicate_succ,List.set_cons_zero,List.range_succ,List.map_append];simp
theorem ZZ {c i:Nat} (h:i<=c):(rE c i).length=c:=by simp[rE];omega
theorem Z0 (c:Nat):(rE c c).map R=(List.range c).map λn:Nat=>R n:=by simp[rE]
section
variable {Q:Value->Prop} {mn:Bool} {x:gL} {cs:List Frame} {uK:Frame} {o:Base} {L:Nat} {r:Loop} {n:Nat} {ji jj:Row} {Fnd:List (List Nat)->Prop} {vs:Array Value}
theorem Pm (U:Seq x) (Ι:n<=10) (hC:ZX Q mn x cs uK o L r n ji jj Fnd) (ah:Fnd (iQ n 0)) :
  sQ Tryz.prog Q mn x (ZW vs) (uK::cs) 72 o L r [.code (Tryz.f126.body.getD .skip)] (entry 0 [qh L,.ad [R n]]) [ji,jj]:=by
 have hm:=hC.m;refine sQ.a' U rfl ?_;simp only[Tryz.f126,Option.getD_some];have AL:=e6 (show n<11 by omega) (by omega);(repeat (first|apply κ|(refine ξ λη I=>?_;simp;(repeat (rw[δ];simp[AL]));apply I)));refine W.iter (λc:Nat=>c<=n+1/\Fnd (iQ n c)) (λc=>[(0,qh L),(1,.ad [R n]),(9,R ((n:Int)+1)),(10,R c)]) (λ_=>[ji,jj]) (λc=>n+1-c) 0 ⟨Nat.zero_le _,ah⟩ rfl (by simp[entry,AL]) (λc ζ Δ=>?_);obtain⟨oN,gf⟩:=ζ;(repeat (first|apply κ|(refine ξ λη I=>?_;simp;(repeat (rw[δ];simp));apply I)));by_cases hr:c<n+1
 ·refine al (by simp;omega) ?_;(repeat (first|apply κ|(refine ξ λη I=>?_;simp;(repeat (rw[δ];simp));apply I)));have kl:(0:Int)<=c:=by omega
  have Z1:(8:Int)*c<=281474976710656:=by omega
  refine c7 (A:=[14]) Κ λη I=>?_;simp;(repeat (rw[δ];simp));(try simp[Z1]);(repeat (rw[δ];simp));apply I;(repeat (first|apply κ|(refine ξ λη I=>?_;simp;(repeat (rw[δ];simp));apply I)));refine W.iter (λi:Nat=>i<=c) (λi=>[(0,qh L),(1,.ad [R n]),(9,R ((n:Int)+1)),(10,R c),(3,R c),(4,.ms 2 c 0 c),(16,R c),(17,R i)]) (λi=>[ji,jj,.cells 3 1 ((rE c i).map R)]) (λi=>c-i) 0 (Nat.zero_le _) (by simp[rE]) (by simp) (λi hi eg=>?_);(repeat (first|apply κ|(refine ξ λη I=>?_;simp;(repeat (rw[δ];simp));apply I)));by_cases e8:i<c
  ·refine al (by simp[e8]) ?_;have kO:=e6 e8 (show c<2 ^ 62 by omega);have Di:=ZZ (Nat.le_of_lt e8);have oM:=ZY e8;obtain⟨G,cX⟩:∃G,G=rE c i:=⟨_,rfl⟩;rw[<-cX] at Di oM ⊢;have Z2:i<G.length:=by omega
   (repeat (first|apply κ|(refine ξ λη I=>?_;simp;(repeat (rw[δ];simp[Di,e8,Z2,kO]));apply I)));refine W.to (eg (i+1) e8 (by omega)) ?_ ?_
   ·rw[<-oM];simp
   ·simp[kO]
  ·have dA:i=c:=by omega
   subst dA;refine aj (by simp) ?_;refine W.exit rfl ?_;rw[Z0]
   repeat apply κ
   refine W.iter (λx:Nat×List Nat=>qc n x.1 x.2=true/\x.2.length=i/\Fnd (oa n x.1 x.2++iQ n (i+1))) (λ_=>[(0,qh L),(1,.ad [R n]),(9,R ((n:Int)+1)),(10,R i),(3,R i),(4,.ms 2 i 0 i)]) (λx=>[ji,jj,dQ x.2]) (λx=>x.1) (300,List.range i)
    ⟨Ye n (by omega) i hr,by simp,by rw[<-Yf hr];exact gf⟩ rfl (by simp) (λx U lM=>?_)
   obtain⟨g,l⟩:=x;obtain⟨dO,kK,EZ⟩:=U;simp only at dO kK EZ ⊢
   repeat apply κ
   refine W.cl ?_;refine W.part (A:=[]) Κ [0,1] [2,3] rfl λη I=>?_;(try simp);(repeat (rw[δ];simp));apply I;refine W.stop ?_;obtain⟨rem,Z3,Pn⟩:∃rem,oa n g l++iQ n (i+1)=l::rem/\((qb n l=none/\rem=iQ n (i+1))\/∃ew ag,qb n l=some ew/\g=ag+1/\rem=oa n ag ew++iQ n (i+1)/\qc n ag ew=true):=by
    cases uL:qb n l with
    | none=>exact⟨iQ n (i+1),by rw[Yi uL];rfl,.inl ⟨rfl,rfl⟩⟩
    | some ew=>
     obtain⟨ag,Ε,Ζ,a6⟩:=Yj dO uL;exact⟨oa n ag ew++iQ n (i+1),by rw[Ζ];rfl,.inr ⟨ew,ag,rfl,Ε,rfl,a6⟩⟩
   rw[Z3] at EZ;have aH:=Yh dO;refine sQ.yield U ⟨rfl,rfl,by simp[Frame.enter],rfl⟩ rfl rfl rfl hC.cS.symm λS B H t ws ν ω jg aD hv=>?_;refine hC.round l rem EZ (by omega) aH S B H ws _ (by rw[<-hm];exact ν) ω.holds jg aD (by rw[kK];exact hv) (λJd ay B' H' eh D7 jc Z4 wh=>?_) (λH' ο=>?_)
   ·rw[ij rfl];have wK:cY ay B' [ji,jj,dQ l] [(27,.z (.bool true)),(0,qh L),(1,.ad [R n]),(9,R ((n:Int)+1)),(10,R i),(3,R i),(4,.ms 2 i 0 i)] (t.setIfInBounds 27 (.bool true)):=rD (cY.put (ω.b6.later D7) (d:=27) (by rw[ω.size];omega) (.z _)) (by simp);refine(sQ.a' (env:=[(27,.z (.bool true)),(0,qh L),(1,.ad [R n]),(9,R ((n:Int)+1)),(10,R i),(3,R i),(4,.ms 2 i 0 i)]) (σ:=[ji,jj,dQ l]) (o:=o) (L:=L) (r:=r) (nt:=72) U rfl ?_) ay B' H' _ (by rw[hm];exact eh) ⟨jc,wK,Eq.trans (Array.size_setIfInBounds ..) ω.size,by rw[hm];simp⟩ Z4 wh;refine W.part (A:=[]) Κ [3] [] rfl λη I=>?_;(try simp);(repeat (rw[δ];simp));apply I;refine W.bJ ?_;refine aj rfl ?_;have fL:IntKind.i64.wrap ((i:Int)-1)=(i:Int)-1:=IntWalk.i64_in _ (by omega);(repeat (first|apply κ|(refine ξ λη I=>?_;simp;(repeat (rw[δ];simp[fL]));apply I)));refine W.iter (λe:Nat=>e<=i/\qa n l i=qa n l e) (λe=>[(0,qh L),(1,.ad [R n]),(9,R ((n:Int)+1)),(10,R i),(3,R i),(4,.ms 2 i 0 i),(6,R ((e:Int)-1))]) (λ_=>[ji,jj,dQ l]) (λe=>e) i ⟨Nat.le_refl _,rfl⟩ rfl (by simp[fL]) (λe he zB=>?_);obtain⟨jγ,Po⟩:=he
    repeat apply κ
    have AM:=e6 hr (show n+1<2 ^ 62 by omega)
    have sy:qb n l=(qa n l e).map λq=>mI l q (l.length-q):=by unfold qb;rw[kK,Po]
    cases e with
    | zero=>
     have GK:rem=iQ n (i+1):=by
      rcases Pn with⟨_,h⟩|⟨ew,ag,h,_⟩
      ·exact h
      ·rw[sy] at h;simp[qa] at h
     rw[GK] at Jd;refine W.draw (A:=[]) Κ mixed λη I=>?_;simp;(repeat (rw[bD];simp));try rw[bC]
     refine⟨bW (by kernel_rfl),I _ _ ?_⟩;refine aj rfl ?_;refine W.exit rfl ?_;(repeat (first|apply κ|(refine ξ λη I=>?_;simp;(repeat (rw[δ];simp));apply I)));refine al rfl ?_;refine W.exit rfl ?_;refine W.drop (h:=2) (σ':=[ji,jj]) (by rw[hm];exact Nat.le_refl _) (by simp) (λid q bS Χ=>by
      match id,bS,Χ with
      | 0,_,Χ=>simp at Χ;subst Χ;exact hC.cK
      | 1,_,Χ=>simp at Χ;subst Χ;exact hC.bP) rfl [(0,qh L),(1,.ad [R n]),(9,R ((n:Int)+1)),(10,R i)] (by simp[lE]) ?_
     (repeat (first|apply κ|(refine ξ λη I=>?_;simp;(repeat (rw[δ];simp[AM]));apply I)));refine W.to (Δ (i+1) ⟨hr,Jd⟩ (by omega)) rfl ?_;simp[AM]
    | succ e=>
     have m9:e<l.length:=by omega
     have hle:=aH _ (List.getElem_mem m9)
     have E0:l.getD e 0=l[e]:=by simp[List.getD_eq_getElem?_getD,m9]
     have gw:IntKind.i64.wrap ((n:Int)-i)=(n:Int)-i:=IntWalk.i64_in _ (by omega)
     have jk:IntKind.i64.wrap ((n:Int)-i+e)=(n:Int)-i+e:=IntWalk.i64_in _ (by omega)
     have o6:IntKind.i64.wrap ((e:Int)-1)=(e:Int)-1:=IntWalk.i64_in _ (by omega)
     have Pp:e<i:=by omega
     have rz:((e+1:Nat):Int)-1=e:=by omega
     rw[rz];refine W.draw (A:=[]) Κ mixed λη I=>?_;simp;(repeat (rw[bD];simp[m9,Pp,kK,gw,jk]));try rw[bC]
     refine⟨bW (by kernel_rfl),I _ _ ?_⟩;by_cases Χ:l[e]+i=n+e
     ·have E1:qa n l (e+1)=qa n l e:=by rw[qa,if_pos (by rw[E0,kK];exact Χ)]
      refine al (by simp;omega) ?_;(repeat (first|apply κ|(refine ξ λη I=>?_;simp;(repeat (rw[δ];simp[o6]));apply I)));refine W.to (zB e ⟨by omega,by rw[Po,E1]⟩ (by omega)) rfl ?_;simp[o6]
     ·have E1:qa n l (e+1)=some e:=by rw[qa,if_neg (by rw[E0,kK];exact Χ)]
      refine aj (by simp;omega) ?_;refine W.exit rfl ?_;(repeat (first|apply κ|(refine ξ λη I=>?_;simp;(repeat (rw[δ];simp));apply I)));refine aj (by simp) ?_;obtain⟨ew,ag,hB,jδ,Z5,Z6⟩:∃ew ag,qb n l=some ew/\g=ag+1/\rem=oa n ag ew++iQ n (i+1)/\qc n ag ew=true:=by
       rcases Pn with⟨h,_⟩|h
       ·rw[sy,E1] at h;cases h
       ·exact h
      have iz:ew=mI l e (i-e):=by
       rw[sy,E1] at hB;simp at hB;rw[<-hB,kK]
      have Z7:IntKind.i64.wrap ((l[e]:Int)+1)=(l[e]:Int)+1:=IntWalk.i64_in _ (by omega)
      have Pq:IntKind.i64.wrap ((e:Int)+1)=(e:Int)+1:=IntWalk.i64_in _ (by omega);(repeat (first|apply κ|(refine ξ λη I=>?_;simp;(repeat (rw[δ];simp[m9,Pp,kK,Z7,Pq]));apply I)));refine W.iter (λp:Nat=>e+1<=p/\p<=i) (λp=>[(0,qh L),(1,.ad [R n]),(9,R ((n:Int)+1)),(10,R i),(3,R i),(4,.ms 2 i 0 i),(7,R p)]) (λp=>[ji,jj,dQ (mI l e (p-e))]) (λp=>i-p) (e+1) ⟨Nat.le_refl _,by omega⟩ (by
       have:e+1-e=1:=by omega
       rw[this,Yk m9];simp) (by simp[Pq]) (λp ω ae=>?_)
      obtain⟨hP,mA⟩:=ω;(repeat (first|apply κ|(refine ξ λη I=>?_;simp;(repeat (rw[δ];simp));apply I)));by_cases Pr:p<i
      ·refine al (by simp[Pr]) ?_;obtain⟨q,jε⟩:∃q,q=p-1:=⟨_,rfl⟩;obtain⟨af,bg⟩:∃af,af=mI l e (p-e):=⟨_,rfl⟩;have yd:af.length=i:=by rw[bg,Ow (by omega),kK]
       have Ps:q<af.length:=by omega
       have Z8:p<af.length:=by omega
       have Z9:q<i:=by omega
       have E2:af[q]=l[e]+(p-e):=by
        have:=Yl (l:=l) (i:=e) (k:=p-e) (by omega) (by omega)
        have Ε:e+(p-e)-1=q:=by omega
        rw[Ε,<-bg,E0] at this;simpa[List.getD_eq_getElem?_getD,Ps] using this
       have tQ:af.set p (af[q]+1)=mI l e (p+1-e):=by
        have:=Ym (l:=l) (i:=e) (k:=p-e) (by omega)
        have Ε:e+(p-e)=p:=by omega
        have Ζ:p-e+1=p+1-e:=by omega
        rw[Ε,Ζ,<-bg,E0,<-E2] at this;exact this
       have Je:af[q]<100:=by omega
       have Z':IntKind.i64.wrap ((p:Int)-1)=(q:Int):=by rw[IntWalk.i64_in _ (by omega)];omega
       have aα:IntKind.i64.wrap ((af[q]:Int)+1)=(af[q]:Int)+1:=IntWalk.i64_in _ (by omega)
       have Pt:IntKind.i64.wrap ((p:Int)+1)=(p:Int)+1:=IntWalk.i64_in _ (by omega);rw[<-bg];(repeat (first|apply κ|(refine ξ λη I=>?_;simp;(repeat (rw[δ];simp[Z',Ps,Z8,Z9,Pr,yd,aα,Pt]));apply I)));refine W.to (ae (p+1) ⟨by omega,by omega⟩ (by omega)) ?_ ?_
       ·rw[<-tQ];simp
       ·simp[Pt]
      ·have aβ:p=i:=by omega
       subst aβ;refine aj (by simp) ?_;refine W.exit rfl ?_
       repeat apply κ
       refine W.to (lM (ag,ew) ⟨Z6,by rw[iz,Ow (by omega),kK],by rw[<-Z5];exact Jd⟩ (by show ag<g;omega)) (by rw[iz]) ?_;simp
   ·rw[ij rfl];have wK:cY e7 [] [] [(27,.z (.bool false))] (t.setIfInBounds 27 (.bool false)):=λj=>by
     simp only[a5];split
     ·rename_i e;subst e;have:(t.setIfInBounds 27 (Value.bool false)).getD 27 undef=.bool false:=by
       have aγ:27<t.size:=by rw[ω.size];omega
       simp[Array.getD_eq_getD_getElem?,aγ]
      rw[this];exact .z _
     ·exact .cz _
    refine V.here (m:=0) (nt:=72) (S:=e7) (B:=[]) (σ:=[]) (env:=[(27,.z (.bool false))]) ?_ ⟨yw H',wK,Eq.trans (Array.size_setIfInBounds ..) ω.size,Nat.zero_le _⟩;refine V.a' U rfl ?_;refine W.part (A:=[]) Κ [3] [] rfl λη I=>?_;(try simp);(repeat (rw[δ];simp));apply I;refine W.bJ ?_;refine al rfl ?_;refine W.stop ?_;refine V.Iy U rfl rfl rfl rfl Tryz.func126 rfl λbB bG H1 lK jz=>?_;obtain rfl:bG=[]:=dp.1 jz.len;exact ο bB H1 lK.ext
 ·have n9:c=n+1:=by omega
  subst n9;refine aj (by simp) ?_;refine W.exit rfl ?_;refine W.stop ?_;intro S B H t ν ω jg aD;rw[Yg] at gf;refine aE.sa U rfl rfl (aE.back U rfl rfl (.inl rfl) Tryz.func126 ?_);rw[results_none rfl];rw[hm] at ν;exact υ.pure' (hC.done gf S B H ν ω.holds jg aD)
end
theorem Pu (n:Nat):az Tryz.prog 83 [R n] (.fn (.func 126) [] [.ad [R n]]):=by
 refine ak.body Κ Tryz.func83 rfl rfl Tryz.ntmps83 rfl rfl (by simp) ?_;(repeat (first|apply κ|(refine ξ λη I=>?_;simp;(repeat (rw[δ];simp));apply I)));refine W.ret ⟨_,rfl,?_,rfl⟩;exact .refl _
theorem Ext.E3 {S:aC} {B:aP} {H:ψ} {r:Nat} {y:Obj} (Τ:H.fresh r):Ext S B H S B (H.aY r y):=
 ⟨λ_ _ _ h=>h,λb _ hb=>by
  have:b≠r:=λe=>hb (e▸Τ);exact m8.of ⟨λ_=>rfl,rfl,by simp[ψ.aY,this]⟩,λb h=>.inl h,λb o v h=>.inl h,ψ.GQ⟩
theorem Holds.E4 {S:aC} {B:aP} {σ:List Row} {H:ψ} (Β:Holds S B σ H) (lG:∀r∈σ,wG r) {b:Nat} (Τ:H.fresh b):¬B.has b:=λ⟨N,ck⟩=>by
 obtain⟨id,bS⟩:=List.getElem?_of_mem ck;have aH:id<σ.length:=by rw[<-Β.len];exact(b7.1 bS).1
 have μ:=a2 aH;obtain⟨t,k,l,e⟩:=lG _ (cv μ);rw[e] at μ;exact Β.nS μ trivial bS Τ
def uM (s:aR) (F:List Found) (cell:Int) (lower:Bool):List Int×Int:=
 if(n6 s cell F).2.2≠0 then([],(n6 s cell F).2.2)
 else match (iQ s.ao.length 0).find? (rl s F cell.toNat lower) with
 | some l=>(l.map λn:Nat=>(n:Int),0)
 | none=>([],11)
abbrev oc:Row:=.cells 29 1 [.sl true 0 []]
abbrev od:Row:=.cells 38 1 [R 0]
abbrev yD (s:aR) (F:List Found) (cell:Int) (lower:Bool):Ω:=[(3,.ad [aQ s.ai,aN s.ao,bl s.cells]),(4,.ad [R cell]),(5,.ad [bA lower]),(6,.Ψ 0 1 0 0),(7,.Ψ 1 1 0 0),(8,.ad [aQ s.ai,aN s.ao,bl s.cells]),(9,.ad [cR F])]
section
variable {Q:Value->Prop} {mn:Bool} {x:gL} {c:Frame} {rest:List Frame} {ee S:aC} {B:aP} {dh H:ψ} {σ:List Row} {res:List Int×Int} {l:List Int} {fz:Int} {e:Bool} {kk:Nat} {b:Frame} {t:Array Value} {k:List Item} {env:Ω}
theorem Pv (U:Seq x) (h3:tT Tryz.prog Q mn x c rest ee [] dh [] (λa s=>cC a (.bu [bf R 1 res.1,R res.2])/\s=[]) (λ_ _=>False)) (bY:b.fn=28) (gq:b.kind=.normal) (eo:b.defers=[]) (Jf:b.mode=.returning)
  (he:Ext ee [] dh S B H) (Β:Holds S B σ H) (ο:cY S B σ env b.tmps) (bc:a5 env 6=.Ψ 0 1 0 0) (gR:a5 env 7=.Ψ 1 1 0 0) (aδ:σ[0]?=some (.cells 29 1 [.sl e kk (l.map R)])) (aε:σ[1]?=some (.cells 38 1 [R fz])) (eY:res=(l,fz)) (χ:l≠[]->kk=1):aE Tryz.prog Q mn x b (c::rest) H:=by
 subst eY;refine aE.back U Jf eo (.inl gq) (fn:=Tryz.f28) (by rw[bY];exact Tryz.func28) ?_;refine υ.mono (λv fB ⟨gn,gP,eN,tm,aB,u9⟩=>?_) (λ_ _ h=>h) _ (Aa Κ (a:=.bu [.sl e kk (l.map R),R fz]) (show oO bk [.cell 6 29,.cell 7 38] env σ=some (.bu [.sl e kk (l.map R),R fz]) by simp[oO,q7,x1,bc,gR,aδ,aε,vP,il.agg,z']) Β ο);obtain⟨J,γ⟩:=aB.close (h:=0) (λid r bS=>by omega);simp only[List.take_zero] at J γ;have μ:ar (gn.close gP σ fB 0) [] [] (.bu [.sl e kk (l.map R),R fz]) v:=by
  have hb:av 0 (.bu [.sl e kk (l.map R),R fz]):=by simp
  have:=(u9.later (bZ.refl gn gP σ)).any hb [] [];exact this.later ⟨λb o v hv=>γ.dg _ _ _ hv,λid r h=>by simp at h⟩
 have wL:=he.trans (eN.trans γ);refine h3.ret _ [] _ [] fB v ⟨?_,rfl⟩ wL ⟨wL.dg,λid r h=>by simp at h⟩ J μ;refine .bu (.cons ?_ (.cons (.refl _) .nil));by_cases Α:l=[]
 ·subst Α;exact .nil
 ·rw[χ Α];exact .ex
end
end Go.TL
