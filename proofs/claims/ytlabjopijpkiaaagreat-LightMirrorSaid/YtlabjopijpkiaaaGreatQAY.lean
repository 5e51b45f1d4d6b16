import Derived.Conc.Own2
import Derived.Test.YtlabjopijpkiaaaGreatQAS
import Derived.Test.YtlabjopijpkiaaaGreatQAU
import Derived.Test.YtlabjopijpkiaaaGreatQAX
set_option maxHeartbeats 16000000
set_option maxRecDepth 20000
set_option linter.unusedSectionVars false
set_option linter.unusedSimpArgs false
set_option linter.unusedVariables false
namespace Go.TL
open Go.Conc Go.Proofs
open Go.ConcN (sumTo upd sumTo_upd upd_ne upd_same sumTo_congr le_sumTo)
noncomputable def Cy:Code:=Tryz.f140.body.getD .skip
noncomputable abbrev Gy (s:Nat):Frame:={Frame.enter Tryz.prog 140 #[ptr s 0,.int .i64 (-1)] .normal with defers:=[Go.Conc.dcall 161 #[]]}
theorem V2:IntKind.u64.wrap (IntKind.u64.wrap (-1)*2 ^ min 32 IntKind.u64.bits)=18446744069414584320:=by decide
theorem V3:IntKind.u64.wrap (18446744073709551615*2 ^ min 32 IntKind.u64.bits)=18446744069414584320:=by decide
theorem V4:IntKind.u64.wrap (-1)=18446744073709551615:=by decide
theorem Cz:IntKind.i32.wrap (-1)=-1:=by decide
section
variable {Q:Value->Prop} {c:Frame} {rest:List Frame} {s k:Nat} {sp:Spec} {v:Option (Nat×aD)}
theorem V5 [bh] (Ζ:j6 Tryz.prog 0 (Go.Conc.G (c.finish (.tuple #[])) rest)) {cc w0:Nat} (J:cc<8) (R:w0<2) (ς:0<cc\/w0=0) {env:Φ} (cw:aW env 0=.z (ptr s 0)) (Δ:aW env 1=.z (.int .i64 (-1))) (cg:aW env 4=.z (.bool false)) (km:aW env 6=.z (.int .u64 (g3 cc w0))) :
  Υ (j6 Tryz.prog 1) (Gy s) (c::rest) 117 [.code (du [1,1,1,1] Cy)] env:=by
 have fin:∀(K:List Item) (env:Φ),Υ (j6 Tryz.prog 1) (Gy s) (c::rest) 117 (.code .ret::K) env:=λK env=>Υ.Gq rfl rfl rfl rfl Tryz.func140 rfl sw Ζ
 have LY:¬(cc:Int)<0:=Int.not_lt.2 (Int.natCast_nonneg _)
 have hw:w0=0\/w0=1:=by omega
 have f1:=Cs cc J w0 R
 have f2:=Ct cc J w0 R
 have f3:=Cu cc J w0 R;generalize g3 cc w0=w at f1 f2 f3 km;unfold Cy;by_cases χ:0<cc
 ·have hl:(0:Int)<cc:=by exact_mod_cast χ
  rcases hw with rfl|rfl
  ·(repeat (first|refine Υ.seq dD rfl ?_|refine Υ.block dD rfl ?_|refine Υ.inBlock dD rfl ?_|refine Υ.skip dD rfl ?_|refine Υ.lJ dD rfl rfl ?_|refine Υ.lK dD rfl rfl ?_|(refine Υ.region dD rfl Μ rfl (by simp[Frame.enter]) λθ I=>?_;(try simp);(repeat (refine gi ?_;simp[cw,Δ,cg,km,f1,f2,f3,Cz,LY,χ,hl]));refine I _ ?_)));exact fin _ _
  ·(repeat (first|refine Υ.seq dD rfl ?_|refine Υ.block dD rfl ?_|refine Υ.inBlock dD rfl ?_|refine Υ.skip dD rfl ?_|refine Υ.lJ dD rfl rfl ?_|refine Υ.lK dD rfl rfl ?_|(refine Υ.region dD rfl Μ rfl (by simp[Frame.enter]) λθ I=>?_;(try simp);(repeat (refine gi ?_;simp[cw,Δ,cg,km,f1,f2,f3,Cz,LY,χ,hl]));refine I _ ?_)));exact fin _ _
 ·have af:w0=0:=ς.resolve_left χ
  have k7:cc=0:=Nat.eq_zero_of_not_pos χ;subst af;subst k7;(repeat (first|refine Υ.seq dD rfl ?_|refine Υ.block dD rfl ?_|refine Υ.inBlock dD rfl ?_|refine Υ.skip dD rfl ?_|refine Υ.lJ dD rfl rfl ?_|refine Υ.lK dD rfl rfl ?_|(refine Υ.region dD rfl Μ rfl (by simp[Frame.enter]) λθ I=>?_;(try simp);(repeat (refine gi ?_;simp[cw,Δ,cg,km,f1,f2,f3,Cz]));refine I _ ?_)));exact fin _ _
structure oT (x:aK) (s:Nat) (sp:Spec):Prop where
 rel:x.rel=true
 spec:x.spec s=some sp
 top:sp.top<7
 shut:∀a7,a7≠s->fi (x.tok a7)
theorem oT.here {x:aK} (h:oT x s sp) {g:rl} {d:Nat} (Ο:g≠.gone):eu (bb x s (.ch k .done g) v d):=.inr ⟨s,by rw[bP];cases g<;>simp_all [Gone]⟩
theorem oT.gone {x:aK} (h:oT x s sp) {d:Nat}:∀a7,Gone ((bb x s (.ch k .done .gone) v d).tok a7):=λa7=>by
 by_cases e:a7=s
 ·subst e;rw[bP];trivial
 ·rw[yH e];have:=h.shut a7 e;revert this;cases x.tok a7 with
  | nil=>exact λ_=>trivial
  | par n p ay=>cases ay<;>exact λh=>h
  | ch k m g=>exact λh=>h.elim
theorem oT.Cv {x:aK} (η:oT x s sp) {ο:aD} (h:ο.toSpec=sp):ο.top<7:=by have:=η.top;rw[show ο.top=sp.top by rw[<-h]];exact this
theorem Υ.back [bh] {db:Goroutine->Prop} {b:Frame} {cs:List Frame} {nt:Nat} {k:List Item} {env:Φ} {ops:Array Oper} {i:Nat} {rest:List Nat} {op:Oper} {t:Array Value} {v:Value} (ω:ops[i]?=some op) (hd:g4 nt op=true) (Η:t.size=nt) (ν:cY eL [] [] env t)
  (h:Υ db b cs nt (.inRegion ops rest::k) (bX op env (.z v))):db (Go.Conc.G ((ai b t (.inRegion ops (i::rest)::k)).finish v) cs):=by
 rw[ho ω];obtain⟨s2,s1⟩:=pA ν hd Η (a:=.z v) (v:=v) (.z _);exact h _ s1 s2
theorem Υ.LZ [bh] {P:Program} {b:Frame} {cs:List Frame} {nt:Nat} {env:Φ} (hb:b.mode=.run) (bZ:b.roundOf=none) (eh:b.defers=[]) (fW:b.kind=.deferred) {fn:Func} (cA:P.funcs[b.fn]?=some fn) (eB:fn.results=#[]) {c:Frame} (oS:c.mode=.returning)
  (h:j6 P 0 (Go.Conc.G c cs)):Υ (j6 P 0) b (c::cs) nt [] env:=λt _ _=>by
 obtain⟨n,Ι⟩:=h;refine dD _ (Go.Conc.G {ai b t [] with mode:=.returning} (c::cs)) ⟨rfl,rfl⟩ (λw=>?_) ⟨n+1,?_⟩
 ·rw[h7 hb];unfold stepG.exec;simp only[ai,bZ];rfl
 ·rw[fM hb bZ];exact QuitsD.leaveD (a:=⟨t,b.defers⟩) fW eh cA eB oS Ι
theorem V6 [bh] {x:aK} (η:oT x s sp) {t:Tok} (aN:∀v,eu (bb x s t v 1)) (cG:¬fi t) {cs:List Frame} (c9:∀φ ο,Seen (bb x s t v 1) s sp φ ο->jg Tryz.prog Q false (bb x s t (some (φ,ο)) 1) (Go.Conc.G (c.finish (.int .u64 (cu ο))) cs)) :
  Υ (jg Tryz.prog Q false (bb x s t v 1)) (Frame.enter Tryz.prog 168 #[ptr s 0] .normal) (c::cs) 7 [.code (Tryz.f168.body.getD .skip)] (entry 0 [.z (ptr s 0)]):=by
 simp only[Tryz.f168,Option.getD_some];(repeat (first|refine Υ.seq (ba (aN _)) rfl ?_|refine Υ.block (ba (aN _)) rfl ?_|refine Υ.inBlock (ba (aN _)) rfl ?_|refine Υ.skip (ba (aN _)) rfl ?_|refine Υ.lJ (ba (aN _)) rfl rfl ?_|refine Υ.lK (ba (aN _)) rfl rfl ?_|(refine Υ.region (ba (aN _)) rfl Μ rfl (by simp[Frame.enter]) λθ I=>?_;(try simp);(repeat (refine gi ?_;simp[cG]));refine I _ ?_)));refine Υ.b0 (ba (aN _)) rfl ?_;refine Υ.part (ba (aN _)) rfl Μ rfl (by simp[Frame.enter]) [0,1,2] [3,4] rfl λθ I=>?_;(try simp[-uk]);(repeat (refine gi ?_;simp));refine I _ ?_;refine Υ.F4 (aN _) (Nat.succ_pos _) (sp:=sp) η.spec (by rw[bP];exact cG) ⟨⟨rfl,rfl,by simp[Frame.enter],rfl⟩,Lr,⟨_,rfl⟩,rfl,rfl,rfl⟩ λφ ο ν=>?_;unfold Gx;rw[jf];refine Υ.part (ba (aN _)) rfl Μ rfl (by simp[Frame.enter]) [4] [] rfl λθ I=>?_;(try simp[-uk]);(repeat (refine gi ?_;simp));refine I _ ?_;refine Υ.bm (ba (aN _)) rfl ?_;exact Υ.q6 (ba (aN _)) rfl rfl rfl rfl Tryz.func168 rfl rfl (c9 φ ο ν)
theorem V7 [bh] {x:aK} (η:oT x s sp) {t t':Tok} {d:Int} (aN:∀v,eu (bb x s t v 1)) (L0:∀v,eu (bb x s t' v 1)) (cG:¬fi t) {cs:List Frame} (c9:∀φ ο,Seen (bb x s t v 1) s sp φ ο->∃o',cu o'=d/\o'.cn=ο.cn/\pW ο o'/\Act ο t o' t'/\∀b1,b1<φ->jg Tryz.prog Q false (bb x s t' (some (b1,o')) 1) (Go.Conc.G (c.finish (.tuple #[])) cs)) :
  Υ (jg Tryz.prog Q false (bb x s t v 1)) (Frame.enter Tryz.prog 169 #[ptr s 0,.int .u64 d] .normal) (c::cs) 9 [.code (Tryz.f169.body.getD .skip)] (entry 0 [.z (ptr s 0),.z (.int .u64 d)]):=by
 simp only[Tryz.f169,Option.getD_some];(repeat (first|refine Υ.seq (ba (aN _)) rfl ?_|refine Υ.block (ba (aN _)) rfl ?_|refine Υ.inBlock (ba (aN _)) rfl ?_|refine Υ.skip (ba (aN _)) rfl ?_|refine Υ.lJ (ba (aN _)) rfl rfl ?_|refine Υ.lK (ba (aN _)) rfl rfl ?_|(refine Υ.region (ba (aN _)) rfl Μ rfl (by simp[Frame.enter]) λθ I=>?_;(try simp);(repeat (refine gi ?_;simp[cG]));refine I _ ?_)));refine Υ.b0 (ba (aN _)) rfl ?_;refine Υ.part (ba (aN _)) rfl Μ rfl (by simp[Frame.enter]) [0,1,2,3] [4] rfl λθ I=>?_;(try simp[-uk]);(repeat (refine gi ?_;simp));refine I _ ?_;refine Υ.VZ (aN _) (Nat.succ_pos _) (sp:=sp) η.spec (by rw[bP];exact cG) ⟨⟨rfl,rfl,by simp[Frame.enter],rfl⟩,Ve,⟨_,rfl⟩,rfl,rfl,rfl⟩ λφ ο ν=>?_;obtain⟨o',a1,bg,cr,fX,hI⟩:=c9 φ ο ν;refine⟨o',t',a1,bg,cr,by rw[bP];exact fX,λb1 dX=>?_⟩;rw[gf];refine Υ.bm (ba (L0 _)) rfl ?_;exact Υ.Cf (ba (L0 _)) rfl rfl rfl rfl Tryz.func169 rfl (hI b1 dX)
theorem V8 [bh] {x:aK} (η:oT x s sp) {t:Tok} {d:Int} (aN:∀v,eu (bb x s t v 1)) (cG:¬fi t) {cs:List Frame}
  (c9:∀φ ο,Seen (bb x s t v 1) s sp φ ο->∃o' t',cu o'=IntKind.u64.wrap (cu ο+d)/\o'.cn=ο.cn/\pW ο o'/\Act ο t o' t'/\∀b1,b1<φ->(((∀v,eu (bb x s t' v 1))/\jg Tryz.prog Q false (bb x s t' (some (b1,o')) 1) (Go.Conc.G (c.finish (.int .u64 (cu o'))) cs))\/((∀a7,Gone ((bb x s t' (some (b1,o')) 1).tok a7))/\j6 Tryz.prog 1 (Go.Conc.G (c.finish (.int .u64 (cu o'))) cs)))) :
  Υ (jg Tryz.prog Q false (bb x s t v 1)) (Frame.enter Tryz.prog 166 #[ptr s 0,.int .u64 d] .normal) (c::cs) 10 [.code (Tryz.f166.body.getD .skip)] (entry 0 [.z (ptr s 0),.z (.int .u64 d)]):=by
 simp only[Tryz.f166,Option.getD_some];(repeat (first|refine Υ.seq (ba (aN _)) rfl ?_|refine Υ.block (ba (aN _)) rfl ?_|refine Υ.inBlock (ba (aN _)) rfl ?_|refine Υ.skip (ba (aN _)) rfl ?_|refine Υ.lJ (ba (aN _)) rfl rfl ?_|refine Υ.lK (ba (aN _)) rfl rfl ?_|(refine Υ.region (ba (aN _)) rfl Μ rfl (by simp[Frame.enter]) λθ I=>?_;(try simp);(repeat (refine gi ?_;simp[cG]));refine I _ ?_)));refine Υ.b0 (ba (aN _)) rfl ?_;refine Υ.part (ba (aN _)) rfl Μ rfl (by simp[Frame.enter]) [0,1,2,3] [4,5] rfl λθ I=>?_;(try simp[-uk]);(repeat (refine gi ?_;simp));refine I _ ?_;refine Υ.F5 (aN _) (Nat.succ_pos _) (sp:=sp) η.spec (by rw[bP];exact cG) ⟨⟨rfl,rfl,by simp[Frame.enter],rfl⟩,Lq,⟨_,rfl⟩,rfl,rfl,rfl⟩ λφ ο ν=>?_;obtain⟨o',t',a1,bg,cr,fX,hI⟩:=c9 φ ο ν;refine⟨o',t',a1,bg,cr,by rw[bP];exact fX,λb1 dX=>?_⟩;rw[gf];rcases hI b1 dX with⟨bs,cF⟩|⟨bs,cF⟩
 ·refine Υ.part (ba (bs _)) rfl Μ rfl (by simp[Frame.enter]) [5] [] rfl λθ I=>?_;(try simp[-uk]);(repeat (refine gi ?_;simp));refine I _ ?_;refine Υ.bm (ba (bs _)) rfl ?_;exact Υ.q6 (ba (bs _)) rfl rfl rfl rfl Tryz.func166 rfl rfl cF
 ·refine Υ.leaves (d:=1) η.rel bs rfl ?_;refine Υ.part dD rfl Μ rfl (by simp[Frame.enter]) [5] [] rfl λθ I=>?_;(try simp[-uk]);(repeat (refine gi ?_;simp));refine I _ ?_;refine Υ.bm dD rfl ?_;exact Υ.q6 dD rfl rfl rfl rfl Tryz.func166 rfl rfl cF
theorem V9 [bh] {x:aK} (η:oT x s sp) (Ζ:j6 Tryz.prog 0 (Go.Conc.G (c.finish (.tuple #[])) rest)) {env:Φ} (cw:aW env 0=.z (ptr s 0)) (Δ:aW env 1=.z (.int .i64 (-1))) (cg:aW env 4=.z (.bool false)) (km:aW env 6=.z (.int .u64 (g3 0 1))) :
  Υ (jg Tryz.prog Q false (bb x s (.ch k .done .l2) v 1)) (Gy s) (c::rest) 117 [.code (du [1,1,1,1] Cy)] env:=by
 have f1:=Cs 0 (by decide) 1 (by decide)
 have f2:=Ct 0 (by decide) 1 (by decide)
 have f3:=Cu 0 (by decide) 1 (by decide)
 have j5:g3 0 1=1:=by decide
 generalize hw:g3 0 1=w at f1 f2 f3 km;have R:=η.here (k:=k) (v:=v) (d:=1) (g:=.l2) (by simp);unfold Cy;(repeat (first|refine Υ.seq (ba R) rfl ?_|refine Υ.block (ba R) rfl ?_|refine Υ.inBlock (ba R) rfl ?_|refine Υ.skip (ba R) rfl ?_|refine Υ.lJ (ba R) rfl rfl ?_|refine Υ.lK (ba R) rfl rfl ?_|(refine Υ.region (ba R) rfl Μ rfl (by simp[Frame.enter]) λθ I=>?_;(try simp);(repeat (refine gi ?_;simp[cw,Δ,cg,km,f1,f2,f3,Cz]));refine I _ ?_)));refine Υ.b0 (ba R) rfl ?_;refine Υ.part (ba R) rfl Μ rfl (by simp[Frame.enter]) [0,1,2] [3,4,5] rfl λθ I=>?_;(repeat (refine gi ?_;simp[cw]));refine I _ ?_;refine Υ.call (ba R) rfl ⟨rfl,rfl,by simp[Frame.enter],rfl⟩ rfl rfl (vs:=[ptr s 0]) rfl Tryz.func168 rfl rfl (by simp[Tryz.ntmps168]) λt Η ν=>?_;have gy:∀v,eu (bb x s (.ch k .done .l2) v 1):=λv=>η.here (by simp);have iR:∀v,eu (bb x s (.ch k .done .gO) v 1):=λv=>η.here (by simp);refine V6 η gy id λφ ο pZ=>?_;have Α:=pZ.ie.q9;rw[bP] at Α;obtain⟨Ξ,aa⟩:=Α.l2 k _ rfl;have pd:cu ο=w:=by rw[<-hw];simp only[cu,Ξ,aa]
 rw[pd];refine Υ.back rfl rfl Η ν ?_;refine Υ.part (ba (gy _)) rfl Μ rfl (by simp[Frame.enter]) [4,5] [] rfl λθ I=>?_;(repeat (refine gi ?_;simp[km]));refine I _ ?_;refine Υ.bm (ba (gy _)) rfl ?_;(repeat (first|refine Υ.seq (ba (gy _)) rfl ?_|refine Υ.block (ba (gy _)) rfl ?_|refine Υ.inBlock (ba (gy _)) rfl ?_|refine Υ.skip (ba (gy _)) rfl ?_|refine Υ.lJ (ba (gy _)) rfl rfl ?_|refine Υ.lK (ba (gy _)) rfl rfl ?_|(refine Υ.region (ba (gy _)) rfl Μ rfl (by simp[Frame.enter]) λθ I=>?_;(try simp);(repeat (refine gi ?_;simp[cw]));refine I _ ?_)));refine Υ.b0 (ba (gy _)) rfl ?_;refine Υ.part (ba (gy _)) rfl Μ rfl (by simp[Frame.enter]) [0,1,2] [3] rfl λθ I=>?_;(repeat (refine gi ?_;simp[cw]));refine I _ ?_;refine Υ.call (ba (gy _)) rfl ⟨rfl,rfl,by simp[Frame.enter],rfl⟩ rfl rfl (vs:=[ptr s 0,.int .u64 0]) rfl Tryz.func169 rfl rfl (by simp[Tryz.ntmps169]) λt3 Gz pY=>?_;refine V7 η (t':=.ch k .done .gO) gy iR id λyT Wa Wb=>?_;have ug:=Wb.ie.q9;rw[bP] at ug;obtain⟨aM,b9⟩:=ug.l2 k _ rfl;refine⟨{Wa with wt:=0},by simp only[cu,b9];rfl,rfl,⟨rfl,rfl,rfl⟩,.Om,λcΤ cΥ=>?_⟩;refine Υ.back rfl rfl Gz pY ?_;refine Υ.bm (ba (iR _)) rfl ?_;(repeat (first|refine Υ.seq (ba (iR _)) rfl ?_|refine Υ.block (ba (iR _)) rfl ?_|refine Υ.inBlock (ba (iR _)) rfl ?_|refine Υ.skip (ba (iR _)) rfl ?_|refine Υ.lJ (ba (iR _)) rfl rfl ?_|refine Υ.lK (ba (iR _)) rfl rfl ?_|(refine Υ.region (ba (iR _)) rfl Μ rfl (by simp[Frame.enter]) λθ I=>?_;(try simp);(repeat (refine gi ?_;simp[cw,cg]));refine I _ ?_)));refine Υ.loop (ba (iR _)) rfl ?_;(repeat (first|refine Υ.seq (ba (iR _)) rfl ?_|refine Υ.block (ba (iR _)) rfl ?_|refine Υ.inBlock (ba (iR _)) rfl ?_|refine Υ.skip (ba (iR _)) rfl ?_|refine Υ.lJ (ba (iR _)) rfl rfl ?_|refine Υ.lK (ba (iR _)) rfl rfl ?_|(refine Υ.region (ba (iR _)) rfl Μ rfl (by simp[Frame.enter]) λθ I=>?_;(try simp);(repeat (refine gi ?_;simp[cw,cg]));refine I _ ?_)));refine Υ.b0 (ba (iR _)) rfl ?_;refine Υ.part (ba (iR _)) rfl Μ rfl (by simp[Frame.enter]) [0,1,2] [3] rfl λθ I=>?_;(repeat (refine gi ?_;simp[cw]));refine I _ ?_;refine Υ.V0 (iR _) (sp:=sp) η.spec (by rw[bP];exact id) (vs:=[ptr s 1,.bool false,.int .i64 0]) rfl ⟨⟨rfl,rfl,by simp[Frame.enter],rfl⟩,Vj,⟨_,rfl⟩,rfl,rfl,rfl⟩ λcΦ L1 Wc=>?_;have ra:=Wc.ie.q9;rw[bP] at ra;refine⟨by have:=ra.cn;omega,{L1 with cn:=L1.cn+1},.ch k .done .gone,rfl,rfl,⟨rfl,rfl,rfl⟩,by rw[bP];exact .On,λcΧ cΨ=>?_⟩;rw[gf];refine Υ.leaves (d:=1) η.rel η.gone rfl ?_;refine Υ.bm dD rfl ?_;(repeat (first|refine Υ.seq dD rfl ?_|refine Υ.block dD rfl ?_|refine Υ.inBlock dD rfl ?_|refine Υ.skip dD rfl ?_|refine Υ.lJ dD rfl rfl ?_|refine Υ.lK dD rfl rfl ?_|(refine Υ.region dD rfl Μ rfl (by simp[Frame.enter]) λθ I=>?_;(try simp);(repeat (refine gi ?_;simp[cw,Cw]));refine I _ ?_)));refine Υ.inLoop dD rfl ?_;(repeat (first|refine Υ.seq dD rfl ?_|refine Υ.block dD rfl ?_|refine Υ.inBlock dD rfl ?_|refine Υ.skip dD rfl ?_|refine Υ.lJ dD rfl rfl ?_|refine Υ.lK dD rfl rfl ?_|(refine Υ.region dD rfl Μ rfl (by simp[Frame.enter]) λθ I=>?_;(try simp);(repeat (refine gi ?_;simp[cw,Cw]));refine I _ ?_)));refine Υ.exit dD rfl rfl ?_;exact Υ.V1 rfl rfl rfl rfl Tryz.func140 rfl sw Ζ
structure L2 (x:aK) (s:Nat) (sp:Spec):Prop where
 rel:x.rel=false
 ao:x.ao=λ_=>none
 spec:x.spec s=some sp
 top:sp.top<7
 shut:∀a7,a7≠s->fi (x.tok a7)
theorem Wd {x:aK} {H:υ} (η:L2 x s sp) (dQ:sp.D k υ.empty) (oS:c.mode=.returning) (Ζ:j6 Tryz.prog 0 (Go.Conc.G c rest)) :
  b4 Tryz.prog Q false (bb x s (.ch k .done .work) v 0) (Frame.enter Tryz.prog 142 #[ptr s 0] .deferred) (c::rest) H:=by
 letI:bh:=ev;have U:∀t v d,Seq (one (bb x s t v d)):=λt v d=>Seq.ss trivial η.rel η.ao;have Ο:oT (wa x) s sp:=⟨rfl,η.spec,η.top,η.shut⟩;have ι:∀v d,eu (bb (wa x) s (.ch k .done .rel) v d):=λv d=>Ο.here (by simp);have Β:∀v d,eu (bb (wa x) s (.ch k .done .l2) v d):=λv d=>Ο.here (by simp);rw[oz (body:=Tryz.f142.body.getD .skip) Tryz.func142 rfl];refine V.here (x:=one _) (m:=0) (nt:=4) (S:=eL) (B:=[]) (σ:=[]) (env:=entry 0 [.z (ptr s 0)]) ?_ (e5.enter (v5 H) ⟨rfl,λi a v J R=>?_⟩ (Nat.le_refl _) (by simp)) _ rfl
 ·refine V.a0 (U _ _ _) rfl ?_;simp only[Tryz.f142,Option.getD_some]
  repeat first|apply aO|apply aP|apply aQ|apply wd
  refine W.b0 ?_;refine W.part (A:=[]) Μ [0] [1] rfl λθ I=>?_;(try simp);(repeat (rw[ε];simp));apply I;refine W.stop ?_;refine V.call (U _ _ _) ⟨rfl,rfl,by simp[Frame.enter],rfl⟩ rfl rfl rfl ⟨_,Tryz.func140,rfl,rfl⟩ λbr bB H1 t1 nE κ χ hv=>?_;obtain rfl:=lE (l:=[ptr s 0,.int .i64 (-1)]) hv;obtain rfl:bB=[]:=dk.1 χ.holds.len;rintro y rfl;refine V.oL (z:=one _) (vs:=[ptr s 0,.int .i64 (-1)]) Tryz.func140 rfl χ.holds (by simp[Tryz.ntmps140]) ?_ _ rfl;refine V.a0 (U _ _ _) rfl ?_;(repeat (first|apply aO|apply aP|apply aQ|apply wd|refine ax rfl ?_|refine au rfl ?_|(refine ξ λθ I=>?_;simp;(repeat (rw[ε];simp));apply I)));refine W.b0 ?_;refine W.part (A:=[]) Μ [0] [1,2] rfl λθ I=>?_;(try simp);(repeat (rw[ε];simp));apply I;refine W.stop ?_;refine V.conv (U _ _ _).here (sp:=sp) η.spec (by rw[bP];exact id) ⟨rfl,rfl,by simp[Frame.enter],rfl⟩ rfl rfl rfl Gf sx Gg rfl (λο w ω bk=>⟨_,bk.cI⟩) (λφ ο ν=>?_);unfold g8;rw[jf];refine V.DY η.rel (sp:=sp) η.spec (.inl rfl) η.shut dQ ⟨⟨rfl,rfl,by simp[Frame.enter],rfl⟩,Ln,⟨_,rfl⟩,rfl,rfl,rfl⟩ (by simp) ?_;refine Υ.bm (ba (ι _ _)) rfl ?_;(repeat (first|refine Υ.seq (ba (ι _ _)) rfl ?_|refine Υ.block (ba (ι _ _)) rfl ?_|refine Υ.inBlock (ba (ι _ _)) rfl ?_|refine Υ.skip (ba (ι _ _)) rfl ?_|refine Υ.lJ (ba (ι _ _)) rfl rfl ?_|refine Υ.lK (ba (ι _ _)) rfl rfl ?_|(refine Υ.region (ba (ι _ _)) rfl Μ rfl (by simp[Frame.enter]) λθ I=>?_;(try simp);(repeat (refine gi ?_;simp[oS]));refine I _ ?_)));refine Υ.b0 (ba (ι _ _)) rfl ?_;refine Υ.disable (ι _ _) ⟨⟨rfl,rfl,by simp[Frame.enter],rfl⟩,yK,⟨_,rfl⟩,rfl,rfl,rfl⟩ ?_;rw[yF];refine Υ.bm (ba (ι _ _)) rfl ?_;refine Υ.b0 (ba (ι _ _)) rfl ?_;refine Υ.F7 (ba (ι _ _)) rfl ⟨rfl,rfl,by simp[Frame.enter],rfl⟩ rfl rfl rfl ?_;refine Υ.bm (ba (ι _ _)) rfl ?_;(repeat (first|refine Υ.seq (ba (ι _ _)) rfl ?_|refine Υ.block (ba (ι _ _)) rfl ?_|refine Υ.inBlock (ba (ι _ _)) rfl ?_|refine Υ.skip (ba (ι _ _)) rfl ?_|refine Υ.lJ (ba (ι _ _)) rfl rfl ?_|refine Υ.lK (ba (ι _ _)) rfl rfl ?_|(refine Υ.region (ba (ι _ _)) rfl Μ rfl (by simp[Frame.enter]) λθ I=>?_;(try simp);(repeat (refine gi ?_;simp[oS]));refine I _ ?_)));refine Υ.b0 (ba (ι _ _)) rfl ?_;refine Υ.Cg (ba (ι _ _)) rfl ⟨rfl,rfl,by simp[Frame.enter],rfl⟩ rfl rfl rfl Lo ?_;refine Υ.bm (ba (ι _ _)) rfl ?_;(repeat (first|refine Υ.seq (ba (ι _ _)) rfl ?_|refine Υ.block (ba (ι _ _)) rfl ?_|refine Υ.inBlock (ba (ι _ _)) rfl ?_|refine Υ.skip (ba (ι _ _)) rfl ?_|refine Υ.lJ (ba (ι _ _)) rfl rfl ?_|refine Υ.lK (ba (ι _ _)) rfl rfl ?_|(refine Υ.region (ba (ι _ _)) rfl Μ rfl (by simp[Frame.enter]) λθ I=>?_;(try simp);(repeat (refine gi ?_;simp[oS]));refine I _ ?_)));refine Υ.b0 (ba (ι _ _)) rfl ?_;refine Υ.part (ba (ι _ _)) rfl Μ rfl (by simp[Frame.enter]) [0,1,2,3,4,5] [6,7] rfl λθ I=>?_;(repeat (refine gi ?_;simp[V4,V2,V3]));refine I _ ?_;refine Υ.call (ba (ι _ _)) rfl ⟨rfl,rfl,by simp[Frame.enter],rfl⟩ rfl rfl (vs:=[ptr s 0,.int .u64 18446744069414584320]) rfl Tryz.func166 rfl rfl (by simp[Tryz.ntmps166]) λt2 oU dG=>?_;refine V8 Ο (λv=>ι v 1) id λφ ο pY=>?_;have Α:=pY.ie.q9;rw[bP] at Α;have eR:1<=ο.cnt:=Α.live;have fN:=Ο.Cv pY.spec;have LW:=Α.cnt;have pa:=Α.wt;obtain⟨cc,lb⟩:∃cc,cc=ο.cnt-1:=⟨_,rfl⟩;have yX:ο.cnt<8/\0<ο.cnt/\cc<8/\ο.wt<2:=by omega
  have L3:cu {ο with cnt:=cc}=IntKind.u64.wrap (cu ο+18446744069414584320):=by
   rw[sA,sA,VG ο.cnt yX.1 ο.wt yX.2.2.2 yX.2.1,lb]
  by_cases ix:ο.cnt=1/\ο.wt=1
  ·have k7:cc=0:=by omega
   refine⟨{ο with cnt:=cc},.ch k .done .l2,L3,rfl,⟨rfl,rfl,rfl⟩,by rw[lb];exact .Oj ix.1 ix.2,λb1 dX=>.inl ⟨λv=>Β v 1,?_⟩⟩;have pd:cu {ο with cnt:=cc}=g3 0 1:=by rw[sA,k7];simp only[ix.2]
   rw[pd];refine Υ.back rfl rfl oU dG ?_;refine Υ.part (ba (Β _ _)) rfl Μ rfl (by simp[Frame.enter]) [7] [] rfl λθ I=>?_;(repeat (refine gi ?_;simp));refine I _ ?_;refine Υ.bm (ba (Β _ _)) rfl ?_;refine V9 Ο ?_ rfl rfl rfl rfl;exact Υ.back (nt:=4) rfl rfl χ.size (yR (by simp) χ.b7) (Υ.bm dD rfl (Υ.LZ rfl rfl rfl rfl Tryz.func142 rfl oS Ζ))
  ·refine⟨{ο with cnt:=cc},.ch k .done .gone,L3,rfl,⟨rfl,rfl,rfl⟩,by rw[lb];exact .Ol (by omega),λb1 dX=>.inr ⟨Ο.gone,?_⟩⟩;have pd:cu {ο with cnt:=cc}=g3 cc ο.wt:=rfl;rw[pd];refine Υ.back rfl rfl oU dG ?_;refine Υ.part dD rfl Μ rfl (by simp[Frame.enter]) [7] [] rfl λθ I=>?_;(repeat (refine gi ?_;simp));refine I _ ?_;refine Υ.bm dD rfl ?_;refine V5 ?_ (cc:=cc) (w0:=ο.wt) yX.2.2.1 yX.2.2.2 (by omega) rfl rfl rfl rfl;exact Υ.back (nt:=4) rfl rfl χ.size (yR (by simp) χ.b7) (Υ.bm dD rfl (Υ.LZ rfl rfl rfl rfl Tryz.func142 rfl oS Ζ))
 ·cases i with
  | zero=>simp at J R;subst J;subst R;exact .z _
  | succ i=>simp at J
end
end Go.TL
namespace Go.TL
open Go.Conc
open Go.ConcN (upd)
def p1 (S:al) (H:υ):υ:={H with av:=λb o=>match S b o with|some v=>some (v,false)|none=>H.av b o}
def lL (S:al):υ:=⟨λb o=>(S b o).map (·,false),λ_=>none,λ_=>none⟩
def al.plus (S T:al):al:=λb o=>match S b o with|some v=>some v|none=>T b o
structure mh (β:Nat) (br:al) (E:υ):Prop where
 av:∀b o x,E.av b o=some x->br b o≠none\/β<b
 row:∀b x,E.row b=some x->β<b
 obj:∀b x,E.obj b=some x->β<b
def wb (r:Row):Prop:=∃t k l,r=.cells t k l
section
variable {S aj gL eQ br:al} {B B':aH} {σ σ':List Row} {H H' dC E G:υ} {β:Nat}
theorem yY {b o:Nat} {v:Value} (h:S b o=some v):(p1 S H).av b o=some (v,false):=by simp only[p1,h]
theorem GA {b o:Nat} (h:S b o=none):(p1 S H).av b o=H.av b o:=by simp only[p1,h]
theorem GB {b o:Nat} {v:Value} (h:S b o=some v):(lL S).av b o=some (v,false):=by simp only[lL,h];rfl
theorem CA {b o:Nat} {x:Value×Bool} (h:(lL S).av b o=some x):∃v,S b o=some v/\x=(v,false):=by
 cases ν:S b o with
 | none=>simp[lL,ν] at h
 | some v=>exact⟨v,rfl,by simp[lL,ν] at h;exact h.symm⟩
theorem yZ {b o:Nat} {v:Value} (h:S b o=some v):S.plus gL b o=some v:=by simp only[al.plus,h]
theorem CB {b o:Nat} (h:S b o=none):S.plus gL b o=gL b o:=by simp only[al.plus,h]
theorem join_some {b o:Nat} {x:Value×Bool} (h:H.av b o=some x):(join H E).av b o=some x:=by simp only[join,h]
theorem join_none {b o:Nat} (h:H.av b o=none):(join H E).av b o=E.av b o:=by simp only[join,h]
theorem We {b:Nat} {x:TypeId×Nat} (h:(join H E).row b=some x):H.row b=some x\/E.row b=some x:=by
 cases ι:H.row b with
 | none=>simp only[join,ι] at h;exact .inr h
 | some y=>simp only[join,ι] at h;exact .inl h
theorem Wf {b:Nat} {x:Obj} (h:(join H E).obj b=some x):H.obj b=some x\/E.obj b=some x:=by
 cases ι:H.obj b with
 | none=>simp only[join,ι] at h;exact .inr h
 | some y=>simp only[join,ι] at h;exact .inl h
theorem Wg (ψ:Holds S [] [] H):Split H (p1 S H) (lL S):=by
 refine⟨⟨λb o v p h=>?_,λb x h=>h,λb x h=>h⟩,⟨λb o v p h=>?_,λb x h=>(by cases h),λb x h=>(by cases h)⟩,⟨λb o ⟨v,h⟩ ⟨x,k⟩=>?_,λb o ⟨v,h⟩ _=>?_,λb _ ⟨x,h⟩=>(by cases h)⟩⟩
 ·cases ν:S b o with
  | some u=>
   rw[yY ν] at h;cases h;obtain⟨e2,χ⟩:=ψ.cX b o _ ν;exact⟨e2,χ,λe=>by cases e⟩
  | none=>rw[GA ν] at h;exact⟨p,h,id⟩
 ·obtain⟨u,ν,e⟩:=CA h;cases e;obtain⟨e2,χ⟩:=ψ.cX b o _ ν;exact⟨e2,χ,λe=>by cases e⟩
 ·obtain⟨u,ν,e⟩:=CA k;rw[yY ν] at h;cases h
 ·obtain⟨u,ν,e⟩:=CA h;cases e
theorem Wh (ψ:Holds S [] [] H):Holds S [] [] (p1 S H):=
 ⟨λb o v h=>⟨false,yY h⟩,rfl,λid r bo h=>by simp at h,λi j dT bW b fT fU _ h=>by simp at h,λid r b N h=>by simp at h⟩
theorem Wi:Holds S [] [] (lL S):=
 ⟨λb o v h=>⟨false,GB h⟩,rfl,λid r bo h=>by simp at h,λi j dT bW b fT fU _ h=>by simp at h,λid r b N h=>by simp at h⟩
theorem Wj (ψ:Holds S [] [] H):Ext S [] H S [] (p1 S H):=by
 refine⟨λ_ _ _ h=>h,λb _ _=>⟨λo=>?_,rfl,rfl⟩,λb h=>.inl h,λb o v h=>.inl h,λb h=>?_⟩
 ·cases ν:S b o with
  | none=>exact .inl (GA ν)
  | some v=>
   obtain⟨p,χ⟩:=ψ.cX b o v ν;exact .inr ⟨v,p,rfl,χ,yY ν⟩
 ·have key:∀b o,(p1 S H).av b o=none->H.av b o=none:=λb o h=>by
   cases ν:S b o with
   | none=>rw[GA ν] at h;exact h
   | some v=>rw[yY ν] at h;cases h
  exact⟨λo=>key b o (h.1 o),h.2.1,h.2.2.1,λΡ hb=>⟨λo=>key Ρ o ((h.2.2.2 Ρ hb).1 o),(h.2.2.2 Ρ hb).2⟩⟩
theorem Holds.qC (ψ:Holds S B σ H) (κ:∀b,¬H.fresh b->js H H' b) (Ο:∀b,H'.fresh b->H.fresh b):Holds S B σ H'/\Ext S B H S B H':=by
 have Ap:∀b o x,H.av b o=some x->¬H.fresh b:=λb o x h ab=>by rw[ab.1 o] at h;cases h
 refine⟨⟨λb o v h=>?_,ψ.len,λid r bo ι eC=>?_,ψ.inj,ψ.sep⟩,⟨λ_ _ _ h=>h,λb _ ab=>lZ.of (κ b ab),λb h=>.inl h,λb o v h=>.inl h,Ο⟩⟩
 ·obtain⟨p,χ⟩:=ψ.cX b o v h;exact⟨p,by rw[(κ b (Ap b o _ χ)).1];exact χ⟩
 ·by_cases eR:r.live
  ·refine(ψ.row id r bo ι eC).later (bQ.refl S B σ) (λb N e=>κ b (ψ.mD ι eR (by rw[eC,e]))) λm left cur e=>?_;subst e;obtain⟨_,_,aI,jN,xs,clock,seen,_,J,⟨es,R⟩,_⟩:=ψ.row id _ bo ι eC;exact⟨rfl,rfl,λb N hb=>κ b (ψ.mD R trivial hb)⟩
  ·cases r<;>first|exact absurd trivial eR|trivial
theorem Ext.qC (h:Ext eL [] H aj [] H') {b:Nat} (ab:¬H.fresh b):js H H' b:=(h.e' b (λ⟨N,x⟩=>by simp at x) ab).qC λ_=>rfl
theorem L4 {w:World} (cS:Fits H w) (c7:Fits E w) {b o:Nat} {u v:Value} {p q:Bool} (h:H.av b o=some (u,p)) (k:E.av b o=some (v,q)):u=v:=by
 have J:=cS.av b o u p h;rw[c7.av b o v q k] at J;exact(Option.some.inj J).symm
theorem Wk {w:World} (cS:Fits H w) (c7:Fits E w) (iA:Apart H E) {b N:Nat} {t:TypeId} (ι:E.row b=some (t,N)) (ω:∀o,o<N->∃v,E.av b o=some (v,true)):(∀o,H.av b o=none)/\js E (join H E) b:=by
 obtain⟨c,J,R⟩:=c7.row b t N ι;have Ι:∀o,H.av b o=none:=λo=>by
  cases U:H.av b o with
  | none=>rfl
  | some x=>
   have η:=cS.av b o x.1 x.2 U;by_cases ar:o<N
   ·exact absurd ⟨x,U⟩ (iA.oZ b o (ω o ar))
   ·simp only[World.cell?,J] at η;simp[R,ar] at η
 refine⟨Ι,λo=>join_none (Ι o),?_,?_⟩
 ·cases U:H.row b with
  | none=>simp only[join,U]
  | some x=>
   obtain⟨c',ς,Κ⟩:=cS.row b x.1 x.2 U;rw[J] at ς;cases ς;simp only[join,U,ι];obtain⟨n9,u5⟩:=x
   simp_all
 ·cases U:H.obj b with
  | none=>simp only[join,U]
  | some x=>
   obtain⟨ς,Κ⟩:=cS.obj b x U;rw[J] at ς;cases ς;simp[Obj.qf] at Κ
theorem L5 (ψ:Holds S [] [] H) (c7:Holds gL B σ E) (iA:Apart H E) (hw:∃w,Fits H w/\Fits E w) (kC:∀r∈σ,wb r) :
  Holds (S.plus gL) B σ (join H E)/\bQ S (S.plus gL) [] B [] σ/\bQ gL (S.plus gL) B B σ σ:=by
 obtain⟨w,cS,gC⟩:=hw;have st:∀b o v,gL b o=some v->S.plus gL b o=some v:=λb o v h=>by
  cases ν:S b o with
  | none=>rw[CB ν];exact h
  | some u=>
   obtain⟨p,χ⟩:=ψ.cX b o u ν;obtain⟨q,Ψ⟩:=c7.cX b o v h;rw[yZ ν,L4 cS gC χ Ψ]
 have l1:bQ S (S.plus gL) [] B [] σ:=⟨λb o v h=>yZ h,λid r h=>by simp at h⟩
 have l2:bQ gL (S.plus gL) B B σ σ:=⟨st,λid r h=>⟨r,h,r.rM _⟩⟩
 have mine:∀(id:Nat) (r:Row) (b N:Nat),σ[id]?=some r->B[id]?=some (some (b,N))->(∀o,H.av b o=none)/\js E (join H E) b:=λid r b N ι hb=>by
  obtain⟨t,k,l,rfl⟩:=kC r (cf ι);obtain⟨Δ,_,Ε,_⟩:=c7.row id _ _ ι hb;exact Wk cS gC iA Δ Ε
 refine⟨⟨λb o v h=>?_,c7.len,λid r bo ι eC=>?_,c7.inj,λid r b N ι eR eC o=>?_⟩,l1,l2⟩
 ·cases ν:S b o with
  | some u=>
   rw[yZ ν] at h;cases h;obtain⟨p,χ⟩:=ψ.cX b o _ ν;exact⟨p,join_some χ⟩
  | none=>
   rw[CB ν] at h;obtain⟨p,χ⟩:=c7.cX b o v h;cases U:H.av b o with
   | none=>exact⟨p,by rw[join_none U];exact χ⟩
   | some x=>
    obtain⟨u,q⟩:=x;have:=L4 cS gC U χ;subst this;exact⟨q,join_some U⟩
 ·refine(c7.row id r bo ι eC).later l2 (λb N e=>(mine id r b N ι (by rw[eC,e])).2) λm left cur e=>?_;subst e;obtain⟨t,k,l,e⟩:=kC _ (cf ι);cases e
 ·have J:=(mine id r b N ι eC).1 o;cases ν:S b o with
  | some u=>
   obtain⟨p,χ⟩:=ψ.cX b o u ν;rw[J] at χ;cases χ
  | none=>rw[CB ν];exact c7.sep id r b N ι eR eC o
theorem GC {o:Nat} {x:Value×Bool} (κ:G.av β o=some x) {b:Nat} (ab:G.fresh b):β<b:=by
 by_cases e:β<b
 ·exact e
 ·rcases Nat.lt_or_ge b β with h|h
  ·have:=(ab.2.2.2 β h).1 o;rw[κ] at this;cases this
  ·obtain rfl:β=b:=by omega
   rw[ab.1 o] at κ;cases κ
theorem GD {b:Nat} (ab:G.fresh β) (h:β<b):G.fresh b:=
 ⟨(ab.2.2.2 b h).1,(ab.2.2.2 b h).2.1,(ab.2.2.2 b h).2.2,λΡ dp=>ab.2.2.2 Ρ (Nat.lt_trans h dp)⟩
theorem Wl (gT:∀b o v,S b o=some v->br b o≠none\/β<b):mh β br (lL S):=
 ⟨λb o x h=>let ⟨v,J,_⟩:=CA h;gT b o v J,λb x h=>(by cases h),λb x h=>(by cases h)⟩
theorem mh.join (h:mh β br G) (k:mh β br E):mh β br (join G E):=by
 refine⟨λb o x U=>?_,λb x U=>(We U).elim (h.row b x) (k.row b x),λb x U=>(Wf U).elim (h.obj b x) (k.obj b x)⟩;cases Ο:G.av b o with
 | none=>rw[join_none Ο] at U;exact k.av b o x U
 | some y=>exact h.av b o y Ο
theorem mh.ext (h:mh β br G) {G':υ} (he:Ext S B G aj B' G') (gY:∀b,B.has b->β<b) {o:Nat} {x:Value×Bool} (κ:G.av β o=some x):mh β br G':=by
 have key:∀b,¬β<b->lZ S G G' b:=λb hb=>he.e' b (λk=>hb (gY b k)) λk=>hb (GC κ k);refine⟨λb o x U=>?_,λb x U=>?_,λb x U=>?_⟩
 ·by_cases hb:β<b
  ·exact .inr hb
  ·rcases(key b hb).1 o with e|⟨v,p,_,e,_⟩
   ·rw[e] at U;exact h.av b o x U
   ·exact h.av b o _ e
 ·by_cases hb:β<b
  ·exact hb
  ·rw[(key b hb).2.1] at U;exact h.row b x U
 ·by_cases hb:β<b
  ·exact hb
  ·rw[(key b hb).2.2] at U;exact h.obj b x U
theorem L6 {G':υ} (he:Ext S B G aj B' G') (gY:¬B.has β) (κ:∃o x,G.av β o=some x):∃o x,G'.av β o=some x:=by
 obtain⟨o,x,U⟩:=κ;rcases(he.e' β gY (λab=>by rw[ab.1 o] at U;cases U)).1 o with e|⟨v,p,_,_,e⟩
 ·exact⟨o,x,by rw[e];exact U⟩
 ·exact⟨o,_,e⟩
theorem mh.blocks (h:mh β br E) (c7:Holds gL B σ E) (kC:∀r∈σ,wb r) {b:Nat} (hb:B.has b):β<b:=by
 obtain⟨N,b8⟩:=hb;obtain⟨id,bS⟩:=List.getElem?_of_mem b8;have ar:id<σ.length:=by rw[<-c7.len];exact(bU.1 bS).1
 have ι:=aX ar;obtain⟨t,k,l,e⟩:=kC _ (cf ι);rw[e] at ι;exact h.row b _ (c7.row id _ _ ι bS).1
theorem Wm (he:Ext eQ [] dC S [] H) (gT:∀b o v,br b o=some v->S b o=some v) (ab:dC.fresh β) (hi:mh β br E) (ψ:Holds S [] [] H) (c7:Holds gL B σ E) (kC:∀r∈σ,wb r) :
  Ext eQ [] dC (S.plus gL) B (join H E):=by
 have vv:∀b,¬aH.has ([]:aH) b:=λb ⟨N,h⟩=>by simp at h
 have old:∀b,¬dC.fresh b->¬β<b:=λb h k=>h (GD ab k)
 have same:∀b,¬β<b->∀o,(join H E).av b o=H.av b o:=λb hb o=>by
  cases U:H.av b o with
  | some x=>rw[join_some U]
  | none=>
   rw[join_none U];cases ad:E.av b o with
   | none=>rfl
   | some y=>
    rcases hi.av b o y ad with k|k
    ·cases ν:br b o with
     | none=>exact absurd ν k
     | some v=>
      obtain⟨p,χ⟩:=ψ.cX b o v (gT b o v ν);rw[U] at χ;cases χ
    ·exact absurd k hb
 refine⟨λb o v h=>yZ (he.cX b o v h),λb _ nq=>?_,λb hb=>.inr (GD ab (hi.blocks c7 kC hb)),λb o v h=>?_,λb h=>he.grow b ?_⟩
 ·have hb:=old b nq;obtain⟨k1,cB,pI⟩:=he.e' b (vv b) nq;refine⟨λo=>by rw[same b hb o];exact k1 o,?_,?_⟩
  ·cases U:E.row b with
   | none=>rw[<-cB];simp only[join,U];cases H.row b<;>rfl
   | some x=>exact absurd (hi.row b x U) hb
  ·cases U:E.obj b with
   | none=>rw[<-pI];simp only[join,U];cases H.obj b<;>rfl
   | some x=>exact absurd (hi.obj b x U) hb
 ·cases ν:S b o with
  | some u=>rw[yZ ν] at h;cases h;exact he.pj b o _ ν
  | none=>
   rw[CB ν] at h;obtain⟨p,χ⟩:=c7.cX b o v h;rcases hi.av b o _ χ with k|k
   ·cases pZ:br b o with
    | none=>exact absurd pZ k
    | some u=>rw[gT b o u pZ] at ν;cases ν
   ·exact .inr (.inr (GD ab k))
 ·have c:∀b o,(join H E).av b o=none->H.av b o=none:=λb o h=>by
   cases U:H.av b o with
   | none=>rfl
   | some x=>rw[join_some U] at h;cases h
  have r:∀b,(join H E).row b=none->H.row b=none:=λb h=>by
   cases U:H.row b with
   | none=>rfl
   | some x=>simp only[join,U] at h;cases h
  have o:∀b,(join H E).obj b=none->H.obj b=none:=λb h=>by
   cases U:H.obj b with
   | none=>rfl
   | some x=>simp only[join,U] at h;cases h
  exact⟨λo'=>c b o' (h.1 o'),r b h.2.1,o b h.2.2.1,λΡ hb=>⟨λo'=>c Ρ o' ((h.2.2.2 Ρ hb).1 o'),r Ρ (h.2.2.2 Ρ hb).2.1,o Ρ (h.2.2.2 Ρ hb).2.2⟩⟩
end
end Go.TL
namespace Go.TL
open Go.Conc Go.Proofs
open Go.ConcN (sumTo upd sumTo_upd upd_ne upd_same sumTo_congr le_sumTo)
noncomputable def under (P:Program):Frame:={(default:Frame) with fn:=P.funcs.size,defers:=[],mode:=.panicking [goexitEntry]}
theorem Wn {P:Program} {g:FuncId} {cap:Array Value} (Ο:Plain P g) (w:World):stepG P false (born P ⟨.fn (.func g) cap,#[]⟩) w=.go (Go.Conc.G (Frame.enter P g cap .deferred) [under P]) w #[]:=by
 obtain⟨fn,J,R,ς⟩:=Ο;have gy:¬fn.name = "runtime.NumGoroutine" := by simpa using R
 have Wo:¬fn.body=none:=by intro e;rw[e] at ς;cases ς
 simp[born,stepG,unwind,callDeferred,invoke,callFunc,J,gy,Wo,seen,GStep.after,Go.Conc.G,under]
theorem Wp {P:Program} {b:Frame} {fn:Func} (cA:P.funcs[b.fn]?=some fn) (eB:fn.results=#[]) (eh:b.defers=[]) (hm:b.mode=.returning) (Α:b.kind=.deferred):j6 P 0 (Go.Conc.G b [under P]):=by
 refine⟨2,QuitsD.ctl (g':=Go.Conc.G (under P) []) rfl (λw=>?_) ?_⟩
 ·simp[Go.Conc.G,stepG,unwind,hm,eh,cA,doReturn,results,eB,Α,under,seen,GStep.after,goexitEntry]
 ·refine QuitsD.ctl (g':={Go.Conc.G (under P) [] with status:=.finished}) rfl (λw=>?_) ⟨rfl,rfl⟩;simp[Go.Conc.G,stepG,unwind,under,goexitEntry,Frame.catches];rfl
def rb (l:List ζ):ζ:=if l.isEmpty then .sl true 0 [] else .ms 1 l.length 0 l.length
def fO (l:List ζ):List Row:=.cells 99 1 [rb l]::bz 110 3 l
theorem GF:rb []=.sl true 0 []:=rfl
theorem CC {l:List ζ} (h:l≠[]):rb l=.ms 1 l.length 0 l.length:=by unfold rb;rw[if_neg (by simpa using h)]
theorem L7 {l:List ζ} {x:ζ}:rb (l++[x])=.ms 1 (l.length+1) 0 (l.length+1):=by rw[CC (by simp)];simp
theorem CD (l:List ζ):∀r∈fO l,wb r:=by
 intro r h;unfold fO bz at h;rcases List.mem_cons.1 h with rfl|h
 ·exact⟨_,_,_,rfl⟩
 ·split at h
  ·cases h
  ·simp at h;subst h;exact⟨_,_,_,rfl⟩
def uo (β:Nat) (br:al) (o:Nat) (fd:Nat->Option Found) (L:List Nat) (E:υ):Prop:=
 mh β br E/\∃S B,Holds S B (fO ((L.filterMap fd).map cR)) E/\B[0]?=some (some (o,1))
theorem Wq {S aj:al} {B B':aH} {l dH:List ζ} {m:Nat} (h:bQ S aj (B.take m) B' ((fO l).take m) (fO dH)) (hm:0<m):B'[0]?=B[0]?:=by
 obtain⟨m,rfl⟩:∃k,m=k+1:=⟨m-1,by omega⟩;obtain⟨r',J,R⟩:=h.rows 0 (.cells 99 1 [rb l]) (by simp[fO]);have:r'=.cells 99 1 [rb dH]:=by simpa[fO] using J.symm
 subst this;rcases R with⟨l2,_,_,ς⟩|ς
 ·simpa[List.getElem?_take] using ς
 ·have:=ς 1 (by simp);simp[Row.gn] at this
section
variable {β s m o k:Nat} {S br:al} {fd:Nat->Option Found} {sp:Spec} {dK:a9} {a b:Int} {v1 v2 wc:Value} {f:Found} {n:Nat}
abbrev kM (s:Nat) (sp:Spec):aK:=⟨υ.empty,λ_=>none,λ_=>.nil,upd (λ_=>none) s (some sp),λ_=>none,0,false⟩
abbrev CE (s m o:Nat) (v1 v2 wc:Value):Array Value:=#[ptr s 0,v1,v2,wc,ptr m 0,ptr o 0]
abbrev GG (s m o:Nat) (dK:a9) (a b:Int):List ζ:=[.z (ptr s 0),.Ω [aJ dK.Τ,aL dK.ak,bx dK.cells],.Ω [δ a],.Ω [δ b],.z (ptr m 0),.z (ptr o 0)]
theorem L8:(kM s sp).spec s=some sp:=upd_same (λ_=>(none:Option Spec)) s (some sp)
theorem L9 (eX:sp.aI=some m) (fN:sp.top<7):ig (kM s sp) s m sp:=⟨rfl,rfl,L8,eX,fN,λ_ _=>trivial⟩
theorem Wr (fN:sp.top<7):L2 (kM s sp) s sp:=⟨rfl,rfl,L8,fN,λ_ _=>trivial⟩
theorem Ws (eX:sp.aI=some m) (fN:sp.top<7) (dQ:sp.D k υ.empty) {Q:Value->Prop} {c:Frame} {H:υ} {v:Option (Nat×aD)} {d1:Deferred} (jc:tS Tryz.prog d1 142 #[ptr s 0])
  (hm:c.mode=.returning) (eh:c.defers=[d1]) (Α:c.kind=.deferred) (cA:c.fn=141):b4 Tryz.prog Q false (bb (kM s sp) s (.ch k .done .work) v 0) c [under Tryz.prog] H:=by
 letI:bh:=ev;have U:Seq (one (bb (kM s sp) s (.ch k .done .work) v 0)):=Seq.ss trivial rfl rfl;refine aB.deferred (x:=one _) U (by rw[hm];simp) eh jc.t1 jc.t2 jc.run (λy ad=>?_) _ rfl;cases ad;refine Wd (Wr fN) dQ hm ?_;exact Wp (fn:=Tryz.f141) (by rw[cA];exact Tryz.func141) rfl rfl hm Α
theorem Wt (eX:sp.aI=some m) (fN:sp.top<7) (eA:sp.bw=uo β br o fd) (dQ:sp.D k υ.empty) {Q:Value->Prop} {c:Frame} {jy:al} {jz:aH} {ic:υ} {L:List Nat} {v:Option (Nat×aD)} {d1 d2:Deferred}
  (jc:tS Tryz.prog d1 142 #[ptr s 0]) (kN:tS Tryz.prog d2 145 #[ptr m 0]) (hm:c.mode=.returning) (eh:c.defers=[d2,d1]) (Α:c.kind=.deferred) (cA:c.fn=141)
  (ψ:Holds jy jz (fO (((L++[k]).filterMap fd).map cR)) ic) (gY:jz[0]?=some (some (o,1))) (hi:mh β br ic) (κ:∃q x,ic.av β q=some x) :
  b4 Tryz.prog Q false (bb (kM s sp) s (.ch k (.cW L) .work) v 0) c [under Tryz.prog] ic:=by
 letI:bh:=ev;have U:Seq (one (bb (kM s sp) s (.ch k (.cW L) .work) v 0)):=Seq.ss trivial rfl rfl;refine aB.deferred (x:=one _) U (by rw[hm];simp) eh kN.t1 kN.t2 kN.run (λy ad=>?_) _ rfl;cases ad;refine VE (x:=kM s sp) (s:=s) (c:={c with defers:=[d1]}) (L9 eX fN) ψ hm λiK iL he jJ=>⟨υ.empty,iL,⟨Sub.empty _,Sub.refl _,(Apart.rz _).symm⟩,?_,λv2 hB gU _=>?_⟩
 ·rw[eA];obtain⟨dU,p2,p3⟩:=ψ.back he jJ;obtain⟨q,x,Ψ⟩:=κ;exact⟨hi.ext he (λb ⟨N,h⟩=>by simp at h) Ψ,iK,jz,dU,gY⟩
 ·exact Ws eX fN dQ jc hm rfl Α cA
end
section
variable {β s m o k:Nat} {S br:al} {fd:Nat->Option Found} {sp:Spec} {dK:a9} {a b:Int} {v1 v2 wc:Value} {f:Found} {n:Nat}
noncomputable abbrev Wu (vs:Array Value) (ds:List Deferred):Frame:={Frame.enter Tryz.prog 141 vs .deferred with defers:=ds}
noncomputable def CF:Code:=Tryz.f141.body.getD .skip
theorem Wv (eX:sp.aI=some m) (fN:sp.top<7) (eA:sp.bw=uo β br o fd) (dQ:sp.D k υ.empty) (GH:∀c:bh,@an c Tryz.prog 78 [cR f,δ (-1)] (δ n)) (CG:fd k=if 0<n then some f else none) {Q:Value->Prop}
  {aj:al} {H' E:υ} {L:List Nat} (ψ:Holds aj [] [] H') (c7:sp.bw L E) (iA:Apart H' E) (hw:∃w,Fits H' w/\Fits E w) (hlen:((L.filterMap fd).map cR).length<=4294967295) (ns:mh β br H') (Ww:∃q x,H'.av β q=some x)
  {t:Array Value} (ν:cY aj [] [] [(4,.z (ptr m 0)),(5,.z (ptr o 0)),(6,.Ω (cR f).cells)] t) (b2:t.size=20) {vs:Array Value} {d1:Deferred} (jc:tS Tryz.prog d1 142 #[ptr s 0]) {ops:Array Oper} :
  b4 Tryz.prog Q false (bb (kM s sp) s (.ch k (.cW L) .work) none 0) (ai (Wu vs [d1]) t [.inRegion ops [],.code (du [1,1,1] CF)]) [under Tryz.prog] (join H' E):=by
 letI:bh:=ev;have U:Seq (one (bb (kM s sp) s (.ch k (.cW L) .work) none 0)):=Seq.ss trivial rfl rfl;rw[eA] at c7;obtain⟨hi,gL,p5,uq,gY⟩:=c7;obtain⟨l,Β⟩:∃l,l=(L.filterMap fd).map cR:=⟨_,rfl⟩;have jP:l.length<=4294967295:=Β▸hlen;rw[<-Β] at uq;obtain⟨GI,l1,l2⟩:=L5 ψ uq iA hw (CD l);have j1:∀b,p5.has b->β<b:=λb=>hi.blocks uq (CD l);have GJ:∃q x,(join H' E).av β q=some x:=let ⟨q,x,h⟩:=Ww;⟨q,x,join_some h⟩;have aF:t.getD 5 undef=ptr o 0:=by
  have:=ν 5;generalize t.getD 5 undef=u at this;cases this;rfl
 have pZ:cY (aj.plus gL) p5 (fO l) [(4,.z (ptr m 0)),(5,.ae 0 1 0 0),(6,.Ω (cR f).cells)] t:=λi=>by
  have af:=(ν i).later l1;simp only[aW] at af ⊢;by_cases cg:4=i
  ·simpa[cg] using af
  by_cases eF:5=i
  ·subst eF;simp only[show ¬4=5 by decide,if_false,if_true];rw[aF];have:=ah.ae (S:=aj.plus gL) (B:=p5) (σ:=fO l) (id:=0) (n:=1) (i:=0) (j:=0) (k:=1) (t:=99) (l:=[rb l]) (b:=o) (N:=1) (by simp[fO]) rfl gY;simpa using this
  ·simpa[cg,eF] using af
 have leave:∀(dH:List ζ) (hB:al) (iM:aH) (gU:υ) (c:Frame) (d2:Deferred),dH=((L++[k]).filterMap fd).map cR->eD 1 (aj.plus gL) p5 (join H' E) (fO l) hB iM gU (fO dH)->Holds hB iM (fO dH) gU->tS Tryz.prog d2 145 #[ptr m 0]->
   c.mode=.returning->c.defers=[d2,d1]->c.kind=.deferred->c.fn=141->b4 Tryz.prog Q false (bb (kM s sp) s (.ch k (.cW L) .work) none 0) c [under Tryz.prog] gU:=λdH hB iM gU c d2 e bG GK kN c1 c2 c3 c4=>by
  subst e;obtain⟨q,x,Ψ⟩:=GJ;exact Wt eX fN eA dQ jc kN c1 c2 c3 c4 GK (by rw[Wq bG.later (by omega)];exact gY) ((ns.join hi).ext bG.ext j1 Ψ) (L6 bG.ext (λh=>Nat.lt_irrefl _ (j1 β h)) ⟨q,x,Ψ⟩)
 refine V.here (x:=one _) (m:=1) (nt:=20) (S:=aj.plus gL) (B:=p5) (σ:=fO l) (env:=[(4,.z (ptr m 0)),(5,.ae 0 1 0 0),(6,.Ω (cR f).cells)]) ?_ ⟨GI,pZ,b2,by simp[fO]⟩ _ rfl;refine V.a0 U rfl ?_;refine W.bm ?_;simp only[CF,Tryz.f141,Option.getD_some,du]
 repeat first|apply aO|apply aP|apply aQ|apply wd
 refine W.b0 (.stop ?_);refine V.defer U rfl rfl rfl rfl rfl rfl rfl ⟨_,Tryz.func145,rfl,rfl⟩ λjy jz ic t3 d2 Gu gI eY q1 kN=>?_;obtain rfl:=lE (l:=[ptr m 0]) q1;rintro y rfl;refine V.here (x:=one _) (m:=1) (nt:=20) ?_ eY _ rfl;refine V.a0 U rfl ?_;refine W.bm ?_;(repeat (first|apply aO|apply aP|apply aQ|apply wd));refine ξ λθ I=>?_;simp;(repeat (rw[ε];simp));refine an.c (GH _) (aE.refl _) (by simp) (by simp) ?_;simp;(repeat (rw[ε];simp));apply I;by_cases Ι:0<n
 ·refine ax (by simp[Ι]) ?_;refine W.hD (A:=[19]) Μ [] (fO (l++[cR f])) (.stop ?_) (by
   by_cases Ν:l=[]
   ·subst Ν;(try simp);(repeat (rw[ε];simp[fO,GF,iN]));(try simp[fO,GF,iN]);exact⟨rfl,rfl⟩
   ·(try simp);(repeat (rw[ε];simp[fO,CC Ν,ei Ν,L7,oE]));(try simp[fO,CC Ν,ei Ν,L7,oE]);exact jP)
  intro hB iM gU t5 jh j7;refine aB.qy U rfl rfl ?_;rintro y rfl;exact leave _ hB iM gU _ d2 (by rw[List.filterMap_append,List.map_append,<-Β];simp[CG,Ι]) (gI.trans jh) j7.holds kN rfl rfl rfl rfl
 ·refine au (by simp;omega) ?_
  repeat first|apply aO|apply aP|apply aQ|apply wd
  refine W.stop ?_;intro hB iM gU t5 jh j7;refine aB.qy U rfl rfl ?_;rintro y rfl;exact leave _ hB iM gU _ d2 (by rw[List.filterMap_append,List.map_append,<-Β];simp[CG,Ι]) (gI.trans jh) j7.holds kN rfl rfl rfl rfl
theorem uu {S:al} {B:aH} {σ:List Row} {env env':Φ} {t:Array Value} (h:cY S B σ env t) (ν:∀p∈env',aW env p.1=p.2):cY S B σ env' t:=by
 induction env' with
 | nil=>exact λi=>.ca _
 | cons p l Γ=>
  intro i;simp only[aW];split
  ·rename_i e;have:=ν p (by simp);rw[<-this,e];exact h i
  ·exact Γ (λq Ψ=>ν q (by simp[Ψ])) i
theorem Wx (eX:sp.aI=some m) (fN:sp.top<7) (eA:sp.bw=uo β br o fd) (dQ:sp.D k υ.empty) (Wy:∀c:bh,@an c Tryz.prog 143 [e8 dK,b5 (a,b)] (cR f))
  (GH:∀c:bh,@an c Tryz.prog 78 [cR f,δ (-1)] (δ n)) (CG:fd k=if 0<n then some f else none) (Wz:∀L:List Nat,L.Nodup->((L.filterMap fd).map cR).length<=4294967295)
  (κ:∃q v,S β q=some v) (gT:∀b q v,S b q=some v->br b q≠none\/β<b) (GL:e6 S [] [] (GG s m o dK a b) (CE s m o v1 v2 wc)) {Q:Value->Prop} :
  Goes Tryz.prog Q false (born Tryz.prog ⟨.fn (.func 141) (CE s m o v1 v2 wc),#[]⟩) {bb (kM s sp) s (.ch k .idle .work) none 0 with G:=lL S}:=by
 letI:bh:=ev;have sC:Seq (one (bb (kM s sp) s (.ch k .idle .work) none 0)):=Seq.ss trivial rfl rfl;refine Quiet.goes (.cons ⟨rfl,rfl⟩ (λw=>Wn ⟨_,Tryz.func141,rfl,rfl⟩ w) (.nil _)) (.inl rfl) ⟨rfl,rfl⟩ ?_;show b4 Tryz.prog Q false (bb (kM s sp) s (.ch k .idle .work) none 0) (Frame.enter Tryz.prog 141 (CE s m o v1 v2 wc) .deferred) [under Tryz.prog] (lL S);rw[oz (body:=CF) Tryz.func141 rfl];refine V.here (x:=one _) (m:=0) (nt:=20) (S:=S) (B:=[]) (σ:=[]) (env:=entry 0 (GG s m o dK a b)) ?_ (e5.enter Wi GL (Nat.le_refl _) (by simp)) _ rfl;refine V.a0 sC rfl ?_;simp only[CF,Tryz.f141,Option.getD_some]
 repeat first|apply aO|apply aP|apply aQ|apply wd
 refine W.b0 (.stop ?_);refine V.defer sC rfl rfl rfl rfl rfl rfl rfl ⟨_,Tryz.func142,rfl,rfl⟩ λjy jz ic t3 d1 Gu gI eY q1 jc=>?_;obtain rfl:=lE (l:=[ptr s 0]) q1;obtain rfl:jz=[]:=dk.1 eY.holds.len;rintro y rfl;refine V.here (x:=one _) (m:=0) (nt:=20) ?_ eY _ rfl;refine V.a0 sC rfl ?_;refine W.bm ?_;(repeat (first|apply aO|apply aP|apply aQ|apply wd));refine dy (A:=[6]) Μ λθ I=>?_;simp;(repeat (rw[ε];simp));refine an.c (Wy _) (aE.refl _) (by simp) (by simp) ?_;simp;(repeat (rw[ε];simp));apply I;refine W.fix (id:=0) (σ':=[]) (Nat.zero_le _) rfl (by simp) (by simp) rfl [(4,.z (ptr m 0)),(5,.z (ptr o 0)),(6,.Ω (cR f).cells)] (by simp[entry]) ?_
 repeat first|apply aO|apply aP|apply aQ|apply wd
 refine W.b0 (.stop ?_);refine V.call sC ⟨rfl,rfl,by simp[Frame.enter],rfl⟩ rfl rfl rfl ⟨_,Tryz.func144,rfl,rfl⟩ λiK nF iL t4 VD q0 oA Gk=>?_;obtain rfl:=lE (l:=[ptr m 0]) Gk;obtain rfl:nF=[]:=dk.1 oA.holds.len;rintro y rfl;refine Vw (L9 eX fN) oA.holds λhB gU L E L' GK c7 iA ⟨ju,Ib,hw⟩=>?_;rw[ho rfl];have pC:Ext S [] (lL S) hB [] gU:=gI.ext.trans (q0.ext.trans L');obtain⟨gQ,u0,uv⟩:=κ;have j1:∀b,¬aH.has ([]:aH) b:=λb ⟨N,h⟩=>by simp at h
 exact Wv eX fN eA dQ GH CG GK c7 iA hw (Wz L ju) ((Wl gT).ext pC (λb h=>absurd h (j1 b)) (GB uv)) (L6 pC (j1 β) ⟨gQ,_,GB uv⟩)
  (by
   refine cY.later (uu (oA.put (a:=.z (.tuple #[])) rfl (.z _)).b7 (by simp[bX])) ⟨L'.cX,λid r h=>by simp at h⟩) (oA.put (a:=.z (.tuple #[])) rfl (.z _)).size jc
end
end Go.TL
namespace Go.TL
open Go.Conc Go.Proofs
variable [bh]
noncomputable abbrev WA (vs:Array Value):Frame:=Frame.enter Tryz.prog 126 vs .normal
abbrev p6 (L:Nat):ζ:=.fn (.yield L) [] []
structure WB (Q:Value->Prop) (mn:Bool) (x:fZ) (cs:List Frame) (sD:Frame) (o:Base) (L:Nat) (r:Loop) (n:Nat) (ih ij:Row) (Fnd:List (List Nat)->Prop):Prop where
 m:o.m=2
 cx:eJ 2 ih
 bs:eJ 2 ij
 cC:r.params.size=1
 round:∀(l:List Nat) (rem:List (List Nat)),Fnd (l::rem)->l.length<=n->(∀x∈l,x<n)->∀(S:al) (B:aH) (H:υ) (ws:Array Value) (c:Frame),eD 2 o.S o.B o.H o.σ S B H [ih,ij,eZ l]->Holds S B [ih,ij,eZ l] H->¬B.has L->H.obj L=some (.loop r)->e6 S B [ih,ij,eZ l] [.ms 2 l.length 0 l.length] ws->
  (Fnd rem->∀(aj:al) (B':aH) (H':υ),eD 2 o.S o.B o.H o.σ aj B' H' [ih,ij,eZ l]->bQ S aj B B' [ih,ij,eZ l] [ih,ij,eZ l]->Holds aj B' [ih,ij,eZ l] H'->¬B'.has L->H'.obj L=some (.loop r)->aB Tryz.prog Q mn x (c.finish (.bool true)) (sD::cs) H')->
  (∀H',(∀(cV:al) (bH:υ),Ext eL [] H' cV [] bH->aB Tryz.prog Q mn x (sD.finish (.tuple #[])) cs bH)->aB Tryz.prog Q mn x (c.finish (.bool false)) (sD::cs) H')->
  aB Tryz.prog Q mn x (Frame.round L r.fn ((r.params.zip ws).foldl (λtmps (t,a)=>tmps.setIfInBounds t a) r.tmps) r.assign r.body .normal) (c::sD::cs) H
 done:Fnd []->∀(S:al) (B:aH) (H:υ),eD 2 o.S o.B o.H o.σ S B H [ih,ij]->Holds S B [ih,ij] H->¬B.has L->H.obj L=some (.loop r)->aB Tryz.prog Q mn x (sD.finish (.tuple #[])) cs H
def p7 (c i:Nat):List Int:=(List.range i).map (λj:Nat=>(j:Int))++List.replicate (c-i) 0
theorem WC {c i:Nat} (h:i<c):(p7 c i).set i (i:Int)=p7 c (i+1):=by
 unfold p7;have Δ:((List.range i).map λj:Nat=>(j:Int)).length=i:=by simp
 have Ε:c-i=(c-(i+1))+1:=by omega
 rw[List.set_append_right _ _ (by omega),Δ,Nat.sub_self,Ε,List.replicate_succ,List.set_cons_zero,List.range_succ,List.map_append];simp
theorem WE {c i:Nat} (h:i<=c):(p7 c i).length=c:=by simp[p7];omega
theorem WG (c:Nat):(p7 c c).map δ=(List.range c).map λn:Nat=>δ n:=by simp[p7]
section
variable {Q:Value->Prop} {mn:Bool} {x:fZ} {cs:List Frame} {sD:Frame} {o:Base} {L:Nat} {r:Loop} {n:Nat} {ih ij:Row} {Fnd:List (List Nat)->Prop} {vs:Array Value}
theorem WH (U:Seq x) (Ι:n<=10) (hC:WB Q mn x cs sD o L r n ih ij Fnd) (af:Fnd (jB n 0)) :
  q7 Tryz.prog Q mn x (WA vs) (sD::cs) 72 o L r [.code (Tryz.f126.body.getD .skip)] (entry 0 [p6 L,.Ω [δ n]]) [ih,ij]:=by
 have hm:=hC.m;refine q7.a0 U rfl ?_;simp only[Tryz.f126,Option.getD_some];have yx:=eK (show n<11 by omega) (by omega);(repeat (first|apply μ|(refine ξ λθ I=>?_;simp;(repeat (rw[ε];simp[yx]));apply I)));refine W.iter (λc:Nat=>c<=n+1/\Fnd (jB n c)) (λc=>[(0,p6 L),(1,.Ω [δ n]),(9,δ ((n:Int)+1)),(10,δ c)]) (λ_=>[ih,ij]) (λc=>n+1-c) 0 ⟨Nat.zero_le _,af⟩ rfl (by simp[entry,yx]) (λc η Γ=>?_);obtain⟨tr,gC⟩:=η;(repeat (first|apply μ|(refine ξ λθ I=>?_;simp;(repeat (rw[ε];simp));apply I)));by_cases ni:c<n+1
 ·refine ax (by simp;omega) ?_;(repeat (first|apply μ|(refine ξ λθ I=>?_;simp;(repeat (rw[ε];simp));apply I)));have k7:(0:Int)<=c:=by omega
  have WI:(8:Int)*c<=281474976710656:=by omega
  refine dy (A:=[14]) Μ λθ I=>?_;simp;(repeat (rw[ε];simp));(try simp[WI]);(repeat (rw[ε];simp));apply I;(repeat (first|apply μ|(refine ξ λθ I=>?_;simp;(repeat (rw[ε];simp));apply I)));refine W.iter (λi:Nat=>i<=c) (λi=>[(0,p6 L),(1,.Ω [δ n]),(9,δ ((n:Int)+1)),(10,δ c),(3,δ c),(4,.ms 2 c 0 c),(16,δ c),(17,δ i)]) (λi=>[ih,ij,.cells 3 1 ((p7 c i).map δ)]) (λi=>c-i) 0 (Nat.zero_le _) (by simp[p7]) (by simp) (λi hi hz=>?_);(repeat (first|apply μ|(refine ξ λθ I=>?_;simp;(repeat (rw[ε];simp));apply I)));by_cases we:i<c
  ·refine ax (by simp[we]) ?_;have lk:=eK we (show c<2 ^ 62 by omega);have AY:=WE (Nat.le_of_lt we);have nx:=WC we;obtain⟨G,cS⟩:∃G,G=p7 c i:=⟨_,rfl⟩;rw[<-cS] at AY nx ⊢;have WJ:i<G.length:=by omega
   (repeat (first|apply μ|(refine ξ λθ I=>?_;simp;(repeat (rw[ε];simp[AY,we,WJ,lk]));apply I)));refine W.to (hz (i+1) we (by omega)) ?_ ?_
   ·rw[<-nx];simp
   ·simp[lk]
  ·have ea:i=c:=by omega
   subst ea;refine au (by simp) ?_;refine W.exit rfl ?_;rw[WG]
   repeat apply μ
   refine W.iter (λx:Nat×List Nat=>oP n x.1 x.2=true/\x.2.length=i/\Fnd (m0 n x.1 x.2++jB n (i+1))) (λ_=>[(0,p6 L),(1,.Ω [δ n]),(9,δ ((n:Int)+1)),(10,δ i),(3,δ i),(4,.ms 2 i 0 i)]) (λx=>[ih,ij,eZ x.2]) (λx=>x.1) (300,List.range i)
    ⟨UR n (by omega) i ni,by simp,by rw[<-US ni];exact gC⟩ rfl (by simp) (λx U pO=>?_)
   obtain⟨g,l⟩:=x;obtain⟨dx,jP,GM⟩:=U;simp only at dx jP GM ⊢
   repeat apply μ
   refine W.b0 ?_;refine W.part (A:=[]) Μ [0,1] [2,3] rfl λθ I=>?_;(try simp);(repeat (rw[ε];simp));apply I;refine W.stop ?_;obtain⟨rem,WK,Ma⟩:∃rem,m0 n g l++jB n (i+1)=l::rem/\((oO n l=none/\rem=jB n (i+1))\/∃fq aa,oO n l=some fq/\g=aa+1/\rem=m0 n aa fq++jB n (i+1)/\oP n aa fq=true):=by
    cases sE:oO n l with
    | none=>exact⟨jB n (i+1),by rw[UW sE];rfl,.inl ⟨rfl,rfl⟩⟩
    | some fq=>
     obtain⟨aa,Δ,Ε,a3⟩:=UX dx sE;exact⟨m0 n aa fq++jB n (i+1),by rw[Ε];rfl,.inr ⟨fq,aa,rfl,Δ,rfl,a3⟩⟩
   rw[WK] at GM;have ar:=UU dx;refine q7.yield U ⟨rfl,rfl,by simp[Frame.enter],rfl⟩ rfl rfl rfl hC.cC.symm λS B H t ws κ χ j1 aS hv=>?_;refine hC.round l rem GM (by omega) ar S B H ws _ (by rw[<-hm];exact κ) χ.holds j1 aS (by rw[jP];exact hv) (λGN aj B' H' eo BH h' WL tZ=>?_) (λH' ν=>?_)
   ·rw[ho rfl];have y0:cY aj B' [ih,ij,eZ l] [(27,.z (.bool true)),(0,p6 L),(1,.Ω [δ n]),(9,δ ((n:Int)+1)),(10,δ i),(3,δ i),(4,.ms 2 i 0 i)] (t.setIfInBounds 27 (.bool true)):=uu (cY.put (χ.b7.later BH) (d:=27) (by rw[χ.size];omega) (.z _)) (by simp);refine(q7.a0 (env:=[(27,.z (.bool true)),(0,p6 L),(1,.Ω [δ n]),(9,δ ((n:Int)+1)),(10,δ i),(3,δ i),(4,.ms 2 i 0 i)]) (σ:=[ih,ij,eZ l]) (o:=o) (L:=L) (r:=r) (nt:=72) U rfl ?_) aj B' H' _ (by rw[hm];exact eo) ⟨h',y0,Eq.trans (Array.size_setIfInBounds ..) χ.size,by rw[hm];simp⟩ WL tZ;refine W.part (A:=[]) Μ [3] [] rfl λθ I=>?_;(try simp);(repeat (rw[ε];simp));apply I;refine W.bm ?_;refine au rfl ?_;have j5:IntKind.i64.wrap ((i:Int)-1)=(i:Int)-1:=IntWalk.i64_in _ (by omega);(repeat (first|apply μ|(refine ξ λθ I=>?_;simp;(repeat (rw[ε];simp[j5]));apply I)));refine W.iter (λe:Nat=>e<=i/\oN n l i=oN n l e) (λe=>[(0,p6 L),(1,.Ω [δ n]),(9,δ ((n:Int)+1)),(10,δ i),(3,δ i),(4,.ms 2 i 0 i),(6,δ ((e:Int)-1))]) (λ_=>[ih,ij,eZ l]) (λe=>e) i ⟨Nat.le_refl _,rfl⟩ rfl (by simp[j5]) (λe he xv=>?_);obtain⟨cΩ,Mb⟩:=he
    repeat apply μ
    have yy:=eK ni (show n+1<2 ^ 62 by omega)
    have qW:oO n l=(oN n l e).map λq=>lF l q (l.length-q):=by unfold oO;rw[jP,Mb]
    cases e with
    | zero=>
     have D':rem=jB n (i+1):=by
      rcases Ma with⟨_,h⟩|⟨fq,aa,h,_⟩
      ·exact h
      ·rw[qW] at h;simp[oN] at h
     rw[D'] at GN;refine W.draw (A:=[]) Μ mixed λθ I=>?_;simp;(repeat (rw[cz];simp));try rw[cy]
     refine⟨cZ (by kernel_rfl),I _ _ ?_⟩;refine au rfl ?_;refine W.exit rfl ?_;(repeat (first|apply μ|(refine ξ λθ I=>?_;simp;(repeat (rw[ε];simp));apply I)));refine ax rfl ?_;refine W.exit rfl ?_;refine W.drop (h:=2) (σ':=[ih,ij]) (by rw[hm];exact Nat.le_refl _) (by simp) (λid q bS Ψ=>by
      match id,bS,Ψ with
      | 0,_,Ψ=>simp at Ψ;subst Ψ;exact hC.cx
      | 1,_,Ψ=>simp at Ψ;subst Ψ;exact hC.bs) rfl [(0,p6 L),(1,.Ω [δ n]),(9,δ ((n:Int)+1)),(10,δ i)] (by simp[iH]) ?_
     (repeat (first|apply μ|(refine ξ λθ I=>?_;simp;(repeat (rw[ε];simp[yy]));apply I)));refine W.to (Γ (i+1) ⟨ni,GN⟩ (by omega)) rfl ?_;simp[yy]
    | succ e=>
     have l3:e<l.length:=by omega
     have hle:=ar _ (List.getElem_mem l3)
     have CH:l.getD e 0=l[e]:=by simp[List.getD_eq_getElem?_getD,l3]
     have jl:IntKind.i64.wrap ((n:Int)-i)=(n:Int)-i:=IntWalk.i64_in _ (by omega)
     have oV:IntKind.i64.wrap ((n:Int)-i+e)=(n:Int)-i+e:=IntWalk.i64_in _ (by omega)
     have Mc:IntKind.i64.wrap ((e:Int)-1)=(e:Int)-1:=IntWalk.i64_in _ (by omega)
     have Md:e<i:=by omega
     have pZ:((e+1:Nat):Int)-1=e:=by omega
     rw[pZ];refine W.draw (A:=[]) Μ mixed λθ I=>?_;simp;(repeat (rw[cz];simp[l3,Md,jP,jl,oV]));try rw[cy]
     refine⟨cZ (by kernel_rfl),I _ _ ?_⟩;by_cases Ψ:l[e]+i=n+e
     ·have CI:oN n l (e+1)=oN n l e:=by rw[oN,if_pos (by rw[CH,jP];exact Ψ)]
      refine ax (by simp;omega) ?_;(repeat (first|apply μ|(refine ξ λθ I=>?_;simp;(repeat (rw[ε];simp[Mc]));apply I)));refine W.to (xv e ⟨by omega,by rw[Mb,CI]⟩ (by omega)) rfl ?_;simp[Mc]
     ·have CI:oN n l (e+1)=some e:=by rw[oN,if_neg (by rw[CH,jP];exact Ψ)]
      refine au (by simp;omega) ?_;refine W.exit rfl ?_;(repeat (first|apply μ|(refine ξ λθ I=>?_;simp;(repeat (rw[ε];simp));apply I)));refine au (by simp) ?_;obtain⟨fq,aa,lA,dα,WM,WN⟩:∃fq aa,oO n l=some fq/\g=aa+1/\rem=m0 n aa fq++jB n (i+1)/\oP n aa fq=true:=by
       rcases Ma with⟨h,_⟩|h
       ·rw[qW,CI] at h;cases h
       ·exact h
      have mY:fq=lF l e (i-e):=by
       rw[qW,CI] at lA;simp at lA;rw[<-lA,jP]
      have WO:IntKind.i64.wrap ((l[e]:Int)+1)=(l[e]:Int)+1:=IntWalk.i64_in _ (by omega)
      have Me:IntKind.i64.wrap ((e:Int)+1)=(e:Int)+1:=IntWalk.i64_in _ (by omega);(repeat (first|apply μ|(refine ξ λθ I=>?_;simp;(repeat (rw[ε];simp[l3,Md,jP,WO,Me]));apply I)));refine W.iter (λp:Nat=>e+1<=p/\p<=i) (λp=>[(0,p6 L),(1,.Ω [δ n]),(9,δ ((n:Int)+1)),(10,δ i),(3,δ i),(4,.ms 2 i 0 i),(7,δ p)]) (λp=>[ih,ij,eZ (lF l e (p-e))]) (λp=>i-p) (e+1) ⟨Nat.le_refl _,by omega⟩ (by
       have:e+1-e=1:=by omega
       rw[this,UY l3];simp) (by simp[Me]) (λp χ ay=>?_)
      obtain⟨hV,jA⟩:=χ;(repeat (first|apply μ|(refine ξ λθ I=>?_;simp;(repeat (rw[ε];simp));apply I)));by_cases Mf:p<i
      ·refine ax (by simp[Mf]) ?_;obtain⟨q,dβ⟩:∃q,q=p-1:=⟨_,rfl⟩;obtain⟨ag,ck⟩:∃ag,ag=lF l e (p-e):=⟨_,rfl⟩;have vL:ag.length=i:=by rw[ck,Ll (by omega),jP]
       have Mg:q<ag.length:=by omega
       have WQ:p<ag.length:=by omega
       have WR:q<i:=by omega
       have CJ:ag[q]=l[e]+(p-e):=by
        have:=UZ (l:=l) (i:=e) (k:=p-e) (by omega) (by omega)
        have Δ:e+(p-e)-1=q:=by omega
        rw[Δ,<-ck,CH] at this;simpa[List.getD_eq_getElem?_getD,Mg] using this
       have rS:ag.set p (ag[q]+1)=lF l e (p+1-e):=by
        have:=U0 (l:=l) (i:=e) (k:=p-e) (by omega)
        have Δ:e+(p-e)=p:=by omega
        have Ε:p-e+1=p+1-e:=by omega
        rw[Δ,Ε,<-ck,CH,<-CJ] at this;exact this
       have dγ:ag[q]<100:=by omega
       have WS:IntKind.i64.wrap ((p:Int)-1)=(q:Int):=by rw[IntWalk.i64_in _ (by omega)];omega
       have WT:IntKind.i64.wrap ((ag[q]:Int)+1)=(ag[q]:Int)+1:=IntWalk.i64_in _ (by omega)
       have Mh:IntKind.i64.wrap ((p:Int)+1)=(p:Int)+1:=IntWalk.i64_in _ (by omega);rw[<-ck];(repeat (first|apply μ|(refine ξ λθ I=>?_;simp;(repeat (rw[ε];simp[WS,Mg,WQ,WR,Mf,vL,WT,Mh]));apply I)));refine W.to (ay (p+1) ⟨by omega,by omega⟩ (by omega)) ?_ ?_
       ·rw[<-rS];simp
       ·simp[Mh]
      ·have WU:p=i:=by omega
       subst WU;refine au (by simp) ?_;refine W.exit rfl ?_
       repeat apply μ
       refine W.to (pO (aa,fq) ⟨WN,by rw[mY,Ll (by omega),jP],by rw[<-WM];exact GN⟩ (by show aa<g;omega)) (by rw[mY]) ?_;simp
   ·rw[ho rfl];have y0:cY eL [] [] [(27,.z (.bool false))] (t.setIfInBounds 27 (.bool false)):=λj=>by
     simp only[aW];split
     ·rename_i e;subst e;have:(t.setIfInBounds 27 (Value.bool false)).getD 27 undef=.bool false:=by
       have WV:27<t.size:=by rw[χ.size];omega
       simp[Array.getD_eq_getD_getElem?,WV]
      rw[this];exact .z _
     ·exact .ca _
    refine V.here (m:=0) (nt:=72) (S:=eL) (B:=[]) (σ:=[]) (env:=[(27,.z (.bool false))]) ?_ ⟨v5 H',y0,Eq.trans (Array.size_setIfInBounds ..) χ.size,Nat.zero_le _⟩;refine V.a0 U rfl ?_;refine W.part (A:=[]) Μ [3] [] rfl λθ I=>?_;(try simp);(repeat (rw[ε];simp));apply I;refine W.bm ?_;refine ax rfl ?_;refine W.stop ?_;refine V.F6 U rfl rfl rfl rfl Tryz.func126 rfl λbr bB H1 oB iB=>?_;obtain rfl:bB=[]:=dk.1 iB.len;exact ν br H1 oB.ext
 ·have FY:c=n+1:=by omega
  subst FY;refine au (by simp) ?_;refine W.exit rfl ?_;refine W.stop ?_;intro S B H t κ χ j1 aS;rw[UT] at gC;refine aB.qy U rfl rfl (aB.back U rfl rfl (.inl rfl) Tryz.func126 ?_);rw[results_none rfl];rw[hm] at κ;exact π.pure' (hC.done gC S B H κ χ.holds j1 aS)
end
theorem WW (n:Nat):an Tryz.prog 83 [δ n] (.fn (.func 126) [] [.Ω [δ n]]):=by
 refine aC.body Μ Tryz.func83 rfl rfl Tryz.ntmps83 rfl rfl (by simp) ?_;(repeat (first|apply μ|(refine ξ λθ I=>?_;simp;(repeat (rw[ε];simp));apply I)));refine W.ret ⟨_,rfl,?_,rfl⟩;exact .refl _
theorem Ext.Mi {S:al} {B:aH} {H:υ} {r:Nat} {y:Obj} (ab:H.fresh r):Ext S B H S B (H.bq r y):=
 ⟨λ_ _ _ h=>h,λb _ hb=>by
  have:b≠r:=λe=>hb (e▸ab);exact lZ.of ⟨λ_=>rfl,rfl,by simp[υ.bq,this]⟩,λb h=>.inl h,λb o v h=>.inl h,υ.Eg⟩
theorem Holds.Mj {S:al} {B:aH} {σ:List Row} {H:υ} (ψ:Holds S B σ H) (kC:∀r∈σ,wb r) {b:Nat} (ab:H.fresh b):¬B.has b:=λ⟨N,b8⟩=>by
 obtain⟨id,bS⟩:=List.getElem?_of_mem b8;have ar:id<σ.length:=by rw[<-ψ.len];exact(bU.1 bS).1
 have ι:=aX ar;obtain⟨t,k,l,e⟩:=kC _ (cf ι);rw[e] at ι;exact ψ.mD ι trivial bS ab
def sF (s:a9) (F:List Found) (cell:Int) (lower:Bool):List Int×Int:=
 if(mT s cell F).2.2≠0 then([],(mT s cell F).2.2)
 else match (jB s.ak.length 0).find? (pQ s F cell.toNat lower) with
 | some l=>(l.map λn:Nat=>(n:Int),0)
 | none=>([],11)
abbrev m2:Row:=.cells 29 1 [.sl true 0 []]
abbrev m3:Row:=.cells 38 1 [δ 0]
abbrev wh (s:a9) (F:List Found) (cell:Int) (lower:Bool):Φ:=[(3,.Ω [aJ s.Τ,aL s.ak,bx s.cells]),(4,.Ω [δ cell]),(5,.Ω [bJ lower]),(6,.ae 0 1 0 0),(7,.ae 1 1 0 0),(8,.Ω [aJ s.Τ,aL s.ak,bx s.cells]),(9,.Ω [cD F])]
section
variable {Q:Value->Prop} {mn:Bool} {x:fZ} {c:Frame} {rest:List Frame} {eQ S:al} {B:aH} {dC H:υ} {σ:List Row} {res:List Int×Int} {l:List Int} {fr:Int} {e:Bool} {kk:Nat} {b:Frame} {t:Array Value} {k:List Item} {env:Φ}
theorem Mk (U:Seq x) (kB:tB Tryz.prog Q mn x c rest eQ [] dC [] (λa s=>dr a (.bn [bC δ 1 res.1,δ res.2])/\s=[]) (λ_ _=>False)) (cA:b.fn=28) (fW:b.kind=.normal) (eh:b.defers=[]) (WX:b.mode=.returning)
  (he:Ext eQ [] dC S B H) (ψ:Holds S B σ H) (ν:cY S B σ env b.tmps) (aV:aW env 6=.ae 0 1 0 0) (fY:aW env 7=.ae 1 1 0 0) (WY:σ[0]?=some (.cells 29 1 [.sl e kk (l.map δ)])) (WZ:σ[1]?=some (.cells 38 1 [δ fr])) (eB:res=(l,fr)) (Α:l≠[]->kk=1):aB Tryz.prog Q mn x b (c::rest) H:=by
 subst eB;refine aB.back U WX eh (.inl fW) (fn:=Tryz.f28) (by rw[cA];exact Tryz.func28) ?_;refine π.mono (λv gU ⟨hB,iM,eF,sR,aF,wT⟩=>?_) (λ_ _ h=>h) _ (Bp Μ (a:=.bn [.sl e kk (l.map δ),δ fr]) (show pD a4 [.cell 6 29,.cell 7 38] env σ=some (.bn [.sl e kk (l.map δ),δ fr]) by simp[pD,qQ,vu,aV,fY,WY,WZ,tE,hq.agg,Bo]) ψ ν);obtain⟨J,R⟩:=aF.close (h:=0) (λid r bS=>by omega);simp only[List.take_zero] at J R;have ι:ah (hB.close iM σ gU 0) [] [] (.bn [.sl e kk (l.map δ),δ fr]) v:=by
  have hb:az 0 (.bn [.sl e kk (l.map δ),δ fr]):=by simp
  have:=(wT.later (bQ.refl hB iM σ)).any hb [] [];exact this.later ⟨λb o v hv=>R.cX _ _ _ hv,λid r h=>by simp at h⟩
 have Ml:=he.trans (eF.trans R);refine kB.ret _ [] _ [] gU v ⟨?_,rfl⟩ Ml ⟨Ml.cX,λid r h=>by simp at h⟩ J ι;refine .bn (.cons ?_ (.cons (.refl _) .nil));by_cases Β:l=[]
 ·subst Β;exact .nil
 ·rw[Α Β];exact .ex
end
end Go.TL
