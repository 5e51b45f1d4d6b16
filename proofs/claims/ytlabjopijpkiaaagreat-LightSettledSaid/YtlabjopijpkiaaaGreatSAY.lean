import Derived.Conc.Own2
import Derived.Test.YtlabjopijpkiaaaGreatSAS
import Derived.Test.YtlabjopijpkiaaaGreatSAU
import Derived.Test.YtlabjopijpkiaaaGreatSAX
set_option maxHeartbeats 16000000
set_option maxRecDepth 20000
set_option linter.unusedSectionVars false
set_option linter.unusedSimpArgs false
set_option linter.unusedVariables false
namespace Go.TL
open Go.Conc Go.Proofs
open Go.ConcN (sumTo upd sumTo_upd upd_ne upd_same sumTo_congr le_sumTo)
noncomputable def EN:Code:=Tryz.f140.body.getD .skip
noncomputable abbrev Jj (s:Nat):Frame:={Frame.enter Tryz.prog 140 #[ptr s 0,.int .i64 (-1)] .normal with defers:=[Go.Conc.dcall 161 #[]]}
theorem aΔ:IntKind.u64.wrap (IntKind.u64.wrap (-1)*2 ^ min 32 IntKind.u64.bits)=18446744069414584320:=by decide
theorem aΕ:IntKind.u64.wrap (18446744073709551615*2 ^ min 32 IntKind.u64.bits)=18446744069414584320:=by decide
theorem aΖ:IntKind.u64.wrap (-1)=18446744073709551615:=by decide
theorem EO:IntKind.i32.wrap (-1)=-1:=by decide
section
variable {Q:Value->Prop} {c:Frame} {rest:List Frame} {s k:Nat} {sp:Spec} {v:Option (Nat×aN)}
theorem aΗ [bm] (Κ:k9 Tryz.prog 0 (Go.Conc.G (c.finish (.tuple #[])) rest)) {cc w0:Nat} (J:cc<8) (γ:w0<2) (π:0<cc\/w0=0) {env:aa} (cv:a3 env 0=.z (ptr s 0)) (Ζ:a3 env 1=.z (.int .i64 (-1))) (cy:a3 env 4=.z (.bool false)) (lA:a3 env 6=.z (.int .u64 (hS cc w0))) :
  ad (k9 Tryz.prog 1) (Jj s) (c::rest) 117 [.code (dC [1,1,1,1] EN)] env:=by
 have fin:∀(K:List Item) (env:aa),ad (k9 Tryz.prog 1) (Jj s) (c::rest) 117 (.code .ret::K) env:=λK env=>ad.Jb rfl rfl rfl rfl Tryz.func140 rfl uG Κ
 have PN:¬(cc:Int)<0:=Int.not_lt.2 (Int.natCast_nonneg _)
 have hw:w0=0\/w0=1:=by omega
 have f1:=EH cc J w0 γ
 have f2:=EI cc J w0 γ
 have f3:=EJ cc J w0 γ;generalize hS cc w0=w at f1 f2 f3 lA;unfold EN;by_cases ψ:0<cc
 ·have fX:(0:Int)<cc:=by exact_mod_cast ψ
  rcases hw with rfl|rfl
  ·(repeat (first|refine ad.seq dN rfl ?_|refine ad.block dN rfl ?_|refine ad.inBlock dN rfl ?_|refine ad.skip dN rfl ?_|refine ad.m0 dN rfl rfl ?_|refine ad.m1 dN rfl rfl ?_|(refine ad.region dN rfl Ι rfl (by simp[Frame.enter]) λη I=>?_;(try simp);(repeat (refine gW ?_;simp[cv,Ζ,cy,lA,f1,f2,f3,EO,PN,ψ,fX]));refine I _ ?_)));exact fin _ _
  ·(repeat (first|refine ad.seq dN rfl ?_|refine ad.block dN rfl ?_|refine ad.inBlock dN rfl ?_|refine ad.skip dN rfl ?_|refine ad.m0 dN rfl rfl ?_|refine ad.m1 dN rfl rfl ?_|(refine ad.region dN rfl Ι rfl (by simp[Frame.enter]) λη I=>?_;(try simp);(repeat (refine gW ?_;simp[cv,Ζ,cy,lA,f1,f2,f3,EO,PN,ψ,fX]));refine I _ ?_)));exact fin _ _
 ·have ag:w0=0:=π.resolve_left ψ
  have jz:cc=0:=Nat.eq_zero_of_not_pos ψ;subst ag;subst jz;(repeat (first|refine ad.seq dN rfl ?_|refine ad.block dN rfl ?_|refine ad.inBlock dN rfl ?_|refine ad.skip dN rfl ?_|refine ad.m0 dN rfl rfl ?_|refine ad.m1 dN rfl rfl ?_|(refine ad.region dN rfl Ι rfl (by simp[Frame.enter]) λη I=>?_;(try simp);(repeat (refine gW ?_;simp[cv,Ζ,cy,lA,f1,f2,f3,EO]));refine I _ ?_)));exact fin _ _
structure qA (x:aV) (s:Nat) (sp:Spec):Prop where
 rel:x.rel=true
 spec:x.spec s=some sp
 top:sp.top<7
 shut:∀bq,bq≠s->fU (x.tok bq)
theorem qA.here {x:aV} (h:qA x s sp) {g:ts} {d:Nat} (Υ:g≠.gone):eL (bw x s (.ch k .done g) v d):=.inr ⟨s,by rw[b2];cases g<;>simp_all [Gone]⟩
theorem qA.gone {x:aV} (h:qA x s sp) {d:Nat}:∀bq,Gone ((bw x s (.ch k .done .gone) v d).tok bq):=λbq=>by
 by_cases e:bq=s
 ·subst e;rw[b2];trivial
 ·rw[AG e];have:=h.shut bq e;revert this;cases x.tok bq with
  | nil=>exact λ_=>trivial
  | par n p aE=>cases aE<;>exact λh=>h
  | ch k m g=>exact λh=>h.elim
theorem qA.EK {x:aV} (ζ:qA x s sp) {ς:aN} (h:ς.toSpec=sp):ς.top<7:=by have:=ζ.top;rw[show ς.top=sp.top by rw[<-h]];exact this
theorem ad.back [bm] {dn:Goroutine->Prop} {b:Frame} {cs:List Frame} {nt:Nat} {k:List Item} {env:aa} {ops:Array Oper} {i:Nat} {rest:List Nat} {op:Oper} {t:Array Value} {v:Value} (Γ:ops[i]?=some op) (hd:hT nt op=true) (Ο:t.size=nt) (ο:de e6 [] [] env t)
  (h:ad dn b cs nt (.inRegion ops rest::k) (ca op env (.z v))):dn (Go.Conc.G ((ar b t (.inRegion ops (i::rest)::k)).finish v) cs):=by
 rw[h' Γ];obtain⟨s2,s1⟩:=re ο hd Ο (a:=.z v) (v:=v) (.z _);exact h _ s1 s2
theorem ad.PO [bm] {P:Program} {b:Frame} {cs:List Frame} {nt:Nat} {env:aa} (hb:b.mode=.run) (cd:b.roundOf=none) (eC:b.defers=[]) (gJ:b.kind=.deferred) {fn:Func} (cf:P.funcs[b.fn]?=some fn) (eT:fn.results=#[]) {c:Frame} (ki:c.mode=.returning)
  (h:k9 P 0 (Go.Conc.G c cs)):ad (k9 P 0) b (c::cs) nt [] env:=λt _ _=>by
 obtain⟨n,Η⟩:=h;refine dN _ (Go.Conc.G {ar b t [] with mode:=.returning} (c::cs)) ⟨rfl,rfl⟩ (λw=>?_) ⟨n+1,?_⟩
 ·rw[iV hb];unfold stepG.exec;simp only[ar,cd];rfl
 ·rw[gA hb cd];exact QuitsD.leaveD (a:=⟨t,b.defers⟩) gJ eC cf eT ki Η
theorem aΘ [bm] {x:aV} (ζ:qA x s sp) {t:Tok} (aU:∀v,eL (bw x s t v 1)) (cH:¬fU t) {cs:List Frame} (dk:∀φ ς,Seen (bw x s t v 1) s sp φ ς->kj Tryz.prog Q false (bw x s t (some (φ,ς)) 1) (Go.Conc.G (c.finish (.int .u64 (cM ς))) cs)) :
  ad (kj Tryz.prog Q false (bw x s t v 1)) (Frame.enter Tryz.prog 168 #[ptr s 0] .normal) (c::cs) 7 [.code (Tryz.f168.body.getD .skip)] (entry 0 [.z (ptr s 0)]):=by
 simp only[Tryz.f168,Option.getD_some];(repeat (first|refine ad.seq (bu (aU _)) rfl ?_|refine ad.block (bu (aU _)) rfl ?_|refine ad.inBlock (bu (aU _)) rfl ?_|refine ad.skip (bu (aU _)) rfl ?_|refine ad.m0 (bu (aU _)) rfl rfl ?_|refine ad.m1 (bu (aU _)) rfl rfl ?_|(refine ad.region (bu (aU _)) rfl Ι rfl (by simp[Frame.enter]) λη I=>?_;(try simp);(repeat (refine gW ?_;simp[cH]));refine I _ ?_)));refine ad.cj (bu (aU _)) rfl ?_;refine ad.part (bu (aU _)) rfl Ι rfl (by simp[Frame.enter]) [0,1,2] [3,4] rfl λη I=>?_;(try simp[-wF]);(repeat (refine gW ?_;simp));refine I _ ?_;refine ad.IP (aU _) (Nat.succ_pos _) (sp:=sp) ζ.spec (by rw[b2];exact cH) ⟨⟨rfl,rfl,by simp[Frame.enter],rfl⟩,Pj,⟨_,rfl⟩,rfl,rfl,rfl⟩ λφ ς ο=>?_;unfold Ji;rw[kh];refine ad.part (bu (aU _)) rfl Ι rfl (by simp[Frame.enter]) [4] [] rfl λη I=>?_;(try simp[-wF]);(repeat (refine gW ?_;simp));refine I _ ?_;refine ad.bF (bu (aU _)) rfl ?_;exact ad.s5 (bu (aU _)) rfl rfl rfl rfl Tryz.func168 rfl rfl (dk φ ς ο)
theorem aΙ [bm] {x:aV} (ζ:qA x s sp) {t t':Tok} {d:Int} (aU:∀v,eL (bw x s t v 1)) (PQ:∀v,eL (bw x s t' v 1)) (cH:¬fU t) {cs:List Frame} (dk:∀φ ς,Seen (bw x s t v 1) s sp φ ς->∃o',cM o'=d/\o'.cE=ς.cE/\rG ς o'/\Act ς t o' t'/\∀cl,cl<φ->kj Tryz.prog Q false (bw x s t' (some (cl,o')) 1) (Go.Conc.G (c.finish (.tuple #[])) cs)) :
  ad (kj Tryz.prog Q false (bw x s t v 1)) (Frame.enter Tryz.prog 169 #[ptr s 0,.int .u64 d] .normal) (c::cs) 9 [.code (Tryz.f169.body.getD .skip)] (entry 0 [.z (ptr s 0),.z (.int .u64 d)]):=by
 simp only[Tryz.f169,Option.getD_some];(repeat (first|refine ad.seq (bu (aU _)) rfl ?_|refine ad.block (bu (aU _)) rfl ?_|refine ad.inBlock (bu (aU _)) rfl ?_|refine ad.skip (bu (aU _)) rfl ?_|refine ad.m0 (bu (aU _)) rfl rfl ?_|refine ad.m1 (bu (aU _)) rfl rfl ?_|(refine ad.region (bu (aU _)) rfl Ι rfl (by simp[Frame.enter]) λη I=>?_;(try simp);(repeat (refine gW ?_;simp[cH]));refine I _ ?_)));refine ad.cj (bu (aU _)) rfl ?_;refine ad.part (bu (aU _)) rfl Ι rfl (by simp[Frame.enter]) [0,1,2,3] [4] rfl λη I=>?_;(try simp[-wF]);(repeat (refine gW ?_;simp));refine I _ ?_;refine ad.aΑ (aU _) (Nat.succ_pos _) (sp:=sp) ζ.spec (by rw[b2];exact cH) ⟨⟨rfl,rfl,by simp[Frame.enter],rfl⟩,ZM,⟨_,rfl⟩,rfl,rfl,rfl⟩ λφ ς ο=>?_;obtain⟨o',a1,bl,cz,gb,hA⟩:=dk φ ς ο;refine⟨o',t',a1,bl,cz,by rw[b2];exact gb,λcl eg=>?_⟩;rw[gT];refine ad.bF (bu (PQ _)) rfl ?_;exact ad.Ev (bu (PQ _)) rfl rfl rfl rfl Tryz.func169 rfl (hA cl eg)
theorem aΚ [bm] {x:aV} (ζ:qA x s sp) {t:Tok} {d:Int} (aU:∀v,eL (bw x s t v 1)) (cH:¬fU t) {cs:List Frame}
  (dk:∀φ ς,Seen (bw x s t v 1) s sp φ ς->∃o' t',cM o'=IntKind.u64.wrap (cM ς+d)/\o'.cE=ς.cE/\rG ς o'/\Act ς t o' t'/\∀cl,cl<φ->(((∀v,eL (bw x s t' v 1))/\kj Tryz.prog Q false (bw x s t' (some (cl,o')) 1) (Go.Conc.G (c.finish (.int .u64 (cM o'))) cs))\/((∀bq,Gone ((bw x s t' (some (cl,o')) 1).tok bq))/\k9 Tryz.prog 1 (Go.Conc.G (c.finish (.int .u64 (cM o'))) cs)))) :
  ad (kj Tryz.prog Q false (bw x s t v 1)) (Frame.enter Tryz.prog 166 #[ptr s 0,.int .u64 d] .normal) (c::cs) 10 [.code (Tryz.f166.body.getD .skip)] (entry 0 [.z (ptr s 0),.z (.int .u64 d)]):=by
 simp only[Tryz.f166,Option.getD_some];(repeat (first|refine ad.seq (bu (aU _)) rfl ?_|refine ad.block (bu (aU _)) rfl ?_|refine ad.inBlock (bu (aU _)) rfl ?_|refine ad.skip (bu (aU _)) rfl ?_|refine ad.m0 (bu (aU _)) rfl rfl ?_|refine ad.m1 (bu (aU _)) rfl rfl ?_|(refine ad.region (bu (aU _)) rfl Ι rfl (by simp[Frame.enter]) λη I=>?_;(try simp);(repeat (refine gW ?_;simp[cH]));refine I _ ?_)));refine ad.cj (bu (aU _)) rfl ?_;refine ad.part (bu (aU _)) rfl Ι rfl (by simp[Frame.enter]) [0,1,2,3] [4,5] rfl λη I=>?_;(try simp[-wF]);(repeat (refine gW ?_;simp));refine I _ ?_;refine ad.IQ (aU _) (Nat.succ_pos _) (sp:=sp) ζ.spec (by rw[b2];exact cH) ⟨⟨rfl,rfl,by simp[Frame.enter],rfl⟩,Ph,⟨_,rfl⟩,rfl,rfl,rfl⟩ λφ ς ο=>?_;obtain⟨o',t',a1,bl,cz,gb,hA⟩:=dk φ ς ο;refine⟨o',t',a1,bl,cz,by rw[b2];exact gb,λcl eg=>?_⟩;rw[gT];rcases hA cl eg with⟨bG,dj⟩|⟨bG,dj⟩
 ·refine ad.part (bu (bG _)) rfl Ι rfl (by simp[Frame.enter]) [5] [] rfl λη I=>?_;(try simp[-wF]);(repeat (refine gW ?_;simp));refine I _ ?_;refine ad.bF (bu (bG _)) rfl ?_;exact ad.s5 (bu (bG _)) rfl rfl rfl rfl Tryz.func166 rfl rfl dj
 ·refine ad.leaves (d:=1) ζ.rel bG rfl ?_;refine ad.part dN rfl Ι rfl (by simp[Frame.enter]) [5] [] rfl λη I=>?_;(try simp[-wF]);(repeat (refine gW ?_;simp));refine I _ ?_;refine ad.bF dN rfl ?_;exact ad.s5 dN rfl rfl rfl rfl Tryz.func166 rfl rfl dj
theorem aΜ [bm] {x:aV} (ζ:qA x s sp) (Κ:k9 Tryz.prog 0 (Go.Conc.G (c.finish (.tuple #[])) rest)) {env:aa} (cv:a3 env 0=.z (ptr s 0)) (Ζ:a3 env 1=.z (.int .i64 (-1))) (cy:a3 env 4=.z (.bool false)) (lA:a3 env 6=.z (.int .u64 (hS 0 1))) :
  ad (kj Tryz.prog Q false (bw x s (.ch k .done .l2) v 1)) (Jj s) (c::rest) 117 [.code (dC [1,1,1,1] EN)] env:=by
 have f1:=EH 0 (by decide) 1 (by decide)
 have f2:=EI 0 (by decide) 1 (by decide)
 have f3:=EJ 0 (by decide) 1 (by decide)
 have iq:hS 0 1=1:=by decide
 generalize hw:hS 0 1=w at f1 f2 f3 lA;have γ:=ζ.here (k:=k) (v:=v) (d:=1) (g:=.l2) (by simp);unfold EN;(repeat (first|refine ad.seq (bu γ) rfl ?_|refine ad.block (bu γ) rfl ?_|refine ad.inBlock (bu γ) rfl ?_|refine ad.skip (bu γ) rfl ?_|refine ad.m0 (bu γ) rfl rfl ?_|refine ad.m1 (bu γ) rfl rfl ?_|(refine ad.region (bu γ) rfl Ι rfl (by simp[Frame.enter]) λη I=>?_;(try simp);(repeat (refine gW ?_;simp[cv,Ζ,cy,lA,f1,f2,f3,EO]));refine I _ ?_)));refine ad.cj (bu γ) rfl ?_;refine ad.part (bu γ) rfl Ι rfl (by simp[Frame.enter]) [0,1,2] [3,4,5] rfl λη I=>?_;(repeat (refine gW ?_;simp[cv]));refine I _ ?_;refine ad.call (bu γ) rfl ⟨rfl,rfl,by simp[Frame.enter],rfl⟩ rfl rfl (vs:=[ptr s 0]) rfl Tryz.func168 rfl rfl (by simp[Tryz.ntmps168]) λt Ο ο=>?_;have hf:∀v,eL (bw x s (.ch k .done .l2) v 1):=λv=>ζ.here (by simp);have jO:∀v,eL (bw x s (.ch k .done .hz) v 1):=λv=>ζ.here (by simp);refine aΘ ζ hf id λφ ς rJ=>?_;have χ:=rJ.jc.s9;rw[b2] at χ;obtain⟨Τ,af⟩:=χ.l2 k _ rfl;have qX:cM ς=w:=by rw[<-hw];simp only[cM,Τ,af]
 rw[qX];refine ad.back rfl rfl Ο ο ?_;refine ad.part (bu (hf _)) rfl Ι rfl (by simp[Frame.enter]) [4,5] [] rfl λη I=>?_;(repeat (refine gW ?_;simp[lA]));refine I _ ?_;refine ad.bF (bu (hf _)) rfl ?_;(repeat (first|refine ad.seq (bu (hf _)) rfl ?_|refine ad.block (bu (hf _)) rfl ?_|refine ad.inBlock (bu (hf _)) rfl ?_|refine ad.skip (bu (hf _)) rfl ?_|refine ad.m0 (bu (hf _)) rfl rfl ?_|refine ad.m1 (bu (hf _)) rfl rfl ?_|(refine ad.region (bu (hf _)) rfl Ι rfl (by simp[Frame.enter]) λη I=>?_;(try simp);(repeat (refine gW ?_;simp[cv]));refine I _ ?_)));refine ad.cj (bu (hf _)) rfl ?_;refine ad.part (bu (hf _)) rfl Ι rfl (by simp[Frame.enter]) [0,1,2] [3] rfl λη I=>?_;(repeat (refine gW ?_;simp[cv]));refine I _ ?_;refine ad.call (bu (hf _)) rfl ⟨rfl,rfl,by simp[Frame.enter],rfl⟩ rfl rfl (vs:=[ptr s 0,.int .u64 0]) rfl Tryz.func169 rfl rfl (by simp[Tryz.ntmps169]) λt3 aΝ rI=>?_;refine aΙ ζ (t':=.ch k .done .hz) hf jO id λAR aΞ aΟ=>?_;have wA:=aΟ.jc.s9;rw[b2] at wA;obtain⟨aX,cr⟩:=wA.l2 k _ rfl;refine⟨{aΞ with wt:=0},by simp only[cM,cr];rfl,rfl,⟨rfl,rfl,rfl⟩,.Tl,λlΗ lΘ=>?_⟩;refine ad.back rfl rfl aΝ rI ?_;refine ad.bF (bu (jO _)) rfl ?_;(repeat (first|refine ad.seq (bu (jO _)) rfl ?_|refine ad.block (bu (jO _)) rfl ?_|refine ad.inBlock (bu (jO _)) rfl ?_|refine ad.skip (bu (jO _)) rfl ?_|refine ad.m0 (bu (jO _)) rfl rfl ?_|refine ad.m1 (bu (jO _)) rfl rfl ?_|(refine ad.region (bu (jO _)) rfl Ι rfl (by simp[Frame.enter]) λη I=>?_;(try simp);(repeat (refine gW ?_;simp[cv,cy]));refine I _ ?_)));refine ad.loop (bu (jO _)) rfl ?_;(repeat (first|refine ad.seq (bu (jO _)) rfl ?_|refine ad.block (bu (jO _)) rfl ?_|refine ad.inBlock (bu (jO _)) rfl ?_|refine ad.skip (bu (jO _)) rfl ?_|refine ad.m0 (bu (jO _)) rfl rfl ?_|refine ad.m1 (bu (jO _)) rfl rfl ?_|(refine ad.region (bu (jO _)) rfl Ι rfl (by simp[Frame.enter]) λη I=>?_;(try simp);(repeat (refine gW ?_;simp[cv,cy]));refine I _ ?_)));refine ad.cj (bu (jO _)) rfl ?_;refine ad.part (bu (jO _)) rfl Ι rfl (by simp[Frame.enter]) [0,1,2] [3] rfl λη I=>?_;(repeat (refine gW ?_;simp[cv]));refine I _ ?_;refine ad.aΒ (jO _) (sp:=sp) ζ.spec (by rw[b2];exact id) (vs:=[ptr s 1,.bool false,.int .i64 0]) rfl ⟨⟨rfl,rfl,by simp[Frame.enter],rfl⟩,ZR,⟨_,rfl⟩,rfl,rfl,rfl⟩ λlΙ PR aΡ=>?_;have PS:=aΡ.jc.s9;rw[b2] at PS;refine⟨by have:=PS.cE;omega,{PR with cE:=PR.cE+1},.ch k .done .gone,rfl,rfl,⟨rfl,rfl,rfl⟩,by rw[b2];exact .Tm,λlΚ lΜ=>?_⟩;rw[gT];refine ad.leaves (d:=1) ζ.rel ζ.gone rfl ?_;refine ad.bF dN rfl ?_;(repeat (first|refine ad.seq dN rfl ?_|refine ad.block dN rfl ?_|refine ad.inBlock dN rfl ?_|refine ad.skip dN rfl ?_|refine ad.m0 dN rfl rfl ?_|refine ad.m1 dN rfl rfl ?_|(refine ad.region dN rfl Ι rfl (by simp[Frame.enter]) λη I=>?_;(try simp);(repeat (refine gW ?_;simp[cv,EL]));refine I _ ?_)));refine ad.inLoop dN rfl ?_;(repeat (first|refine ad.seq dN rfl ?_|refine ad.block dN rfl ?_|refine ad.inBlock dN rfl ?_|refine ad.skip dN rfl ?_|refine ad.m0 dN rfl rfl ?_|refine ad.m1 dN rfl rfl ?_|(refine ad.region dN rfl Ι rfl (by simp[Frame.enter]) λη I=>?_;(try simp);(repeat (refine gW ?_;simp[cv,EL]));refine I _ ?_)));refine ad.exit dN rfl rfl ?_;exact ad.aΓ rfl rfl rfl rfl Tryz.func140 rfl uG Κ
structure PT (x:aV) (s:Nat) (sp:Spec):Prop where
 rel:x.rel=false
 aF:x.aF=λ_=>none
 spec:x.spec s=some sp
 top:sp.top<7
 shut:∀bq,bq≠s->fU (x.tok bq)
theorem aΤ {x:aV} {H:Α} (ζ:PT x s sp) (dQ:sp.D k Α.empty) (ki:c.mode=.returning) (Κ:k9 Tryz.prog 0 (Go.Conc.G c rest)) :
  cn Tryz.prog Q false (bw x s (.ch k .done .work) v 0) (Frame.enter Tryz.prog 142 #[ptr s 0] .deferred) (c::rest) H:=by
 letI:bm:=ep;have U:∀t v d,Seq (one (bw x s t v d)):=λt v d=>Seq.uE trivial ζ.rel ζ.aF;have Υ:qA (ym x) s sp:=⟨rfl,ζ.spec,ζ.top,ζ.shut⟩;have μ:∀v d,eL (bw (ym x) s (.ch k .done .rel) v d):=λv d=>Υ.here (by simp);have ω:∀v d,eL (bw (ym x) s (.ch k .done .l2) v d):=λv d=>Υ.here (by simp);rw[qj (body:=Tryz.f142.body.getD .skip) Tryz.func142 rfl];refine V.here (x:=one _) (m:=0) (nt:=4) (S:=e6) (B:=[]) (σ:=[]) (env:=entry 0 [.z (ptr s 0)]) ?_ (fx.enter (yh H) ⟨rfl,λi a v J γ=>?_⟩ (Nat.le_refl _) (by simp)) _ rfl
 ·refine V.bh (U _ _ _) rfl ?_;simp only[Tryz.f142,Option.getD_some]
  repeat first|apply aZ|apply wb|apply a2|apply wd
  refine W.cj ?_;refine W.part (A:=[]) Ι [0] [1] rfl λη I=>?_;(try simp);(repeat (rw[δ];simp));apply I;refine W.stop ?_;refine V.call (U _ _ _) ⟨rfl,rfl,by simp[Frame.enter],rfl⟩ rfl rfl rfl ⟨_,Tryz.func140,rfl,rfl⟩ λbJ bO H1 t1 pf ξ ψ hv=>?_;obtain rfl:=mV (l:=[ptr s 0,.int .i64 (-1)]) hv;obtain rfl:bO=[]:=dp.1 ψ.holds.len;rintro y rfl;refine V.qt (z:=one _) (vs:=[ptr s 0,.int .i64 (-1)]) Tryz.func140 rfl ψ.holds (by simp[Tryz.ntmps140]) ?_ _ rfl;refine V.bh (U _ _ _) rfl ?_;(repeat (first|apply aZ|apply wb|apply a2|apply wd|refine aj rfl ?_|refine ah rfl ?_|(refine ν λη I=>?_;simp;(repeat (rw[δ];simp));apply I)));refine W.cj ?_;refine W.part (A:=[]) Ι [0] [1,2] rfl λη I=>?_;(try simp);(repeat (rw[δ];simp));apply I;refine W.stop ?_;refine V.conv (U _ _ _).here (sp:=sp) ζ.spec (by rw[b2];exact id) ⟨rfl,rfl,by simp[Frame.enter],rfl⟩ rfl rfl rfl I2 uH I3 rfl (λς w Γ bB=>⟨_,bB.cP⟩) (λφ ς ο=>?_);unfold h0;rw[kh];refine V.GJ ζ.rel (sp:=sp) ζ.spec (.inl rfl) ζ.shut dQ ⟨⟨rfl,rfl,by simp[Frame.enter],rfl⟩,Pe,⟨_,rfl⟩,rfl,rfl,rfl⟩ (by simp) ?_;refine ad.bF (bu (μ _ _)) rfl ?_;(repeat (first|refine ad.seq (bu (μ _ _)) rfl ?_|refine ad.block (bu (μ _ _)) rfl ?_|refine ad.inBlock (bu (μ _ _)) rfl ?_|refine ad.skip (bu (μ _ _)) rfl ?_|refine ad.m0 (bu (μ _ _)) rfl rfl ?_|refine ad.m1 (bu (μ _ _)) rfl rfl ?_|(refine ad.region (bu (μ _ _)) rfl Ι rfl (by simp[Frame.enter]) λη I=>?_;(try simp);(repeat (refine gW ?_;simp[ki]));refine I _ ?_)));refine ad.cj (bu (μ _ _)) rfl ?_;refine ad.disable (μ _ _) ⟨⟨rfl,rfl,by simp[Frame.enter],rfl⟩,AI,⟨_,rfl⟩,rfl,rfl,rfl⟩ ?_;rw[AE];refine ad.bF (bu (μ _ _)) rfl ?_;refine ad.cj (bu (μ _ _)) rfl ?_;refine ad.IT (bu (μ _ _)) rfl ⟨rfl,rfl,by simp[Frame.enter],rfl⟩ rfl rfl rfl ?_;refine ad.bF (bu (μ _ _)) rfl ?_;(repeat (first|refine ad.seq (bu (μ _ _)) rfl ?_|refine ad.block (bu (μ _ _)) rfl ?_|refine ad.inBlock (bu (μ _ _)) rfl ?_|refine ad.skip (bu (μ _ _)) rfl ?_|refine ad.m0 (bu (μ _ _)) rfl rfl ?_|refine ad.m1 (bu (μ _ _)) rfl rfl ?_|(refine ad.region (bu (μ _ _)) rfl Ι rfl (by simp[Frame.enter]) λη I=>?_;(try simp);(repeat (refine gW ?_;simp[ki]));refine I _ ?_)));refine ad.cj (bu (μ _ _)) rfl ?_;refine ad.Ew (bu (μ _ _)) rfl ⟨rfl,rfl,by simp[Frame.enter],rfl⟩ rfl rfl rfl Pf ?_;refine ad.bF (bu (μ _ _)) rfl ?_;(repeat (first|refine ad.seq (bu (μ _ _)) rfl ?_|refine ad.block (bu (μ _ _)) rfl ?_|refine ad.inBlock (bu (μ _ _)) rfl ?_|refine ad.skip (bu (μ _ _)) rfl ?_|refine ad.m0 (bu (μ _ _)) rfl rfl ?_|refine ad.m1 (bu (μ _ _)) rfl rfl ?_|(refine ad.region (bu (μ _ _)) rfl Ι rfl (by simp[Frame.enter]) λη I=>?_;(try simp);(repeat (refine gW ?_;simp[ki]));refine I _ ?_)));refine ad.cj (bu (μ _ _)) rfl ?_;refine ad.part (bu (μ _ _)) rfl Ι rfl (by simp[Frame.enter]) [0,1,2,3,4,5] [6,7] rfl λη I=>?_;(repeat (refine gW ?_;simp[aΖ,aΔ,aΕ]));refine I _ ?_;refine ad.call (bu (μ _ _)) rfl ⟨rfl,rfl,by simp[Frame.enter],rfl⟩ rfl rfl (vs:=[ptr s 0,.int .u64 18446744069414584320]) rfl Tryz.func166 rfl rfl (by simp[Tryz.ntmps166]) λt2 wH dP=>?_;refine aΚ Υ (λv=>μ v 1) id λφ ς rI=>?_;have χ:=rI.jc.s9;rw[b2] at χ;have fc:1<=ς.cnt:=χ.live;have gB:=Υ.EK rI.spec;have PL:=χ.cnt;have qV:=χ.wt;obtain⟨cc,mC⟩:∃cc,cc=ς.cnt-1:=⟨_,rfl⟩;have AV:ς.cnt<8/\0<ς.cnt/\cc<8/\ς.wt<2:=by omega
  have PU:cM {ς with cnt:=cc}=IntKind.u64.wrap (cM ς+18446744069414584320):=by
   rw[uK,uK,aε ς.cnt AV.1 ς.wt AV.2.2.2 AV.2.1,mC]
  by_cases ju:ς.cnt=1/\ς.wt=1
  ·have jz:cc=0:=by omega
   refine⟨{ς with cnt:=cc},.ch k .done .l2,PU,rfl,⟨rfl,rfl,rfl⟩,by rw[mC];exact .Tj ju.1 ju.2,λcl eg=>.inl ⟨λv=>ω v 1,?_⟩⟩;have qX:cM {ς with cnt:=cc}=hS 0 1:=by rw[uK,jz];simp only[ju.2]
   rw[qX];refine ad.back rfl rfl wH dP ?_;refine ad.part (bu (ω _ _)) rfl Ι rfl (by simp[Frame.enter]) [7] [] rfl λη I=>?_;(repeat (refine gW ?_;simp));refine I _ ?_;refine ad.bF (bu (ω _ _)) rfl ?_;refine aΜ Υ ?_ rfl rfl rfl rfl;exact ad.back (nt:=4) rfl rfl ψ.size (AP (by simp) ψ.cp) (ad.bF dN rfl (ad.PO rfl rfl rfl rfl Tryz.func142 rfl ki Κ))
  ·refine⟨{ς with cnt:=cc},.ch k .done .gone,PU,rfl,⟨rfl,rfl,rfl⟩,by rw[mC];exact .Tk (by omega),λcl eg=>.inr ⟨Υ.gone,?_⟩⟩;have qX:cM {ς with cnt:=cc}=hS cc ς.wt:=rfl;rw[qX];refine ad.back rfl rfl wH dP ?_;refine ad.part dN rfl Ι rfl (by simp[Frame.enter]) [7] [] rfl λη I=>?_;(repeat (refine gW ?_;simp));refine I _ ?_;refine ad.bF dN rfl ?_;refine aΗ ?_ (cc:=cc) (w0:=ς.wt) AV.2.2.1 AV.2.2.2 (by omega) rfl rfl rfl rfl;exact ad.back (nt:=4) rfl rfl ψ.size (AP (by simp) ψ.cp) (ad.bF dN rfl (ad.PO rfl rfl rfl rfl Tryz.func142 rfl ki Κ))
 ·cases i with
  | zero=>simp at J γ;subst J;subst γ;exact .z _
  | succ i=>simp at J
end
end Go.TL
namespace Go.TL
open Go.Conc
open Go.ConcN (upd)
def rL (S:aB) (H:Α):Α:={H with aG:=λb o=>match S b o with|some v=>some (v,false)|none=>H.aG b o}
def m2 (S:aB):Α:=⟨λb o=>(S b o).map (·,false),λ_=>none,λ_=>none⟩
def aB.plus (S T:aB):aB:=λb o=>match S b o with|some v=>some v|none=>T b o
structure nM (β:Nat) (bJ:aB) (E:Α):Prop where
 aG:∀b o x,E.aG b o=some x->bJ b o≠none\/β<b
 row:∀b x,E.row b=some x->β<b
 obj:∀b x,E.obj b=some x->β<b
def yn (r:Row):Prop:=∃t k l,r=.cells t k l
section
variable {S ax ht fb bJ:aB} {B B':aR} {σ σ':List Row} {H H' dK E G:Α} {β:Nat}
theorem AW {b o:Nat} {v:Value} (h:S b o=some v):(rL S H).aG b o=some (v,false):=by simp only[rL,h]
theorem Jk {b o:Nat} (h:S b o=none):(rL S H).aG b o=H.aG b o:=by simp only[rL,h]
theorem Jl {b o:Nat} {v:Value} (h:S b o=some v):(m2 S).aG b o=some (v,false):=by simp only[m2,h];rfl
theorem EP {b o:Nat} {x:Value×Bool} (h:(m2 S).aG b o=some x):∃v,S b o=some v/\x=(v,false):=by
 cases ο:S b o with
 | none=>simp[m2,ο] at h
 | some v=>exact⟨v,rfl,by simp[m2,ο] at h;exact h.symm⟩
theorem AX {b o:Nat} {v:Value} (h:S b o=some v):S.plus ht b o=some v:=by simp only[aB.plus,h]
theorem ER {b o:Nat} (h:S b o=none):S.plus ht b o=ht b o:=by simp only[aB.plus,h]
theorem join_some {b o:Nat} {x:Value×Bool} (h:H.aG b o=some x):(join H E).aG b o=some x:=by simp only[join,h]
theorem join_none {b o:Nat} (h:H.aG b o=none):(join H E).aG b o=E.aG b o:=by simp only[join,h]
theorem aΥ {b:Nat} {x:TypeId×Nat} (h:(join H E).row b=some x):H.row b=some x\/E.row b=some x:=by
 cases μ:H.row b with
 | none=>simp only[join,μ] at h;exact .inr h
 | some y=>simp only[join,μ] at h;exact .inl h
theorem aΦ {b:Nat} {x:Obj} (h:(join H E).obj b=some x):H.obj b=some x\/E.obj b=some x:=by
 cases μ:H.obj b with
 | none=>simp only[join,μ] at h;exact .inr h
 | some y=>simp only[join,μ] at h;exact .inl h
theorem aΧ (Β:Holds S [] [] H):Split H (rL S H) (m2 S):=by
 refine⟨⟨λb o v p h=>?_,λb x h=>h,λb x h=>h⟩,⟨λb o v p h=>?_,λb x h=>(by cases h),λb x h=>(by cases h)⟩,⟨λb o ⟨v,h⟩ ⟨x,k⟩=>?_,λb o ⟨v,h⟩ _=>?_,λb _ ⟨x,h⟩=>(by cases h)⟩⟩
 ·cases ο:S b o with
  | some u=>
   rw[AW ο] at h;cases h;obtain⟨fs,ψ⟩:=Β.dd b o _ ο;exact⟨fs,ψ,λe=>by cases e⟩
  | none=>rw[Jk ο] at h;exact⟨p,h,id⟩
 ·obtain⟨u,ο,e⟩:=EP h;cases e;obtain⟨fs,ψ⟩:=Β.dd b o _ ο;exact⟨fs,ψ,λe=>by cases e⟩
 ·obtain⟨u,ο,e⟩:=EP k;rw[AW ο] at h;cases h
 ·obtain⟨u,ο,e⟩:=EP h;cases e
theorem aΨ (Β:Holds S [] [] H):Holds S [] [] (rL S H):=
 ⟨λb o v h=>⟨false,AW h⟩,rfl,λid r bo h=>by simp at h,λi j ec b' b gF gG _ h=>by simp at h,λid r b N h=>by simp at h⟩
theorem aΩ:Holds S [] [] (m2 S):=
 ⟨λb o v h=>⟨false,Jl h⟩,rfl,λid r bo h=>by simp at h,λi j ec b' b gF gG _ h=>by simp at h,λid r b N h=>by simp at h⟩
theorem bα (Β:Holds S [] [] H):Ext S [] H S [] (rL S H):=by
 refine⟨λ_ _ _ h=>h,λb _ _=>⟨λo=>?_,rfl,rfl⟩,λb h=>.inl h,λb o v h=>.inl h,λb h=>?_⟩
 ·cases ο:S b o with
  | none=>exact .inl (Jk ο)
  | some v=>
   obtain⟨p,ψ⟩:=Β.dd b o v ο;exact .inr ⟨v,p,rfl,ψ,AW ο⟩
 ·have key:∀b o,(rL S H).aG b o=none->H.aG b o=none:=λb o h=>by
   cases ο:S b o with
   | none=>rw[Jk ο] at h;exact h
   | some v=>rw[AW ο] at h;cases h
  exact⟨λo=>key b o (h.1 o),h.2.1,h.2.2.1,λΧ hb=>⟨λo=>key Χ o ((h.2.2.2 Χ hb).1 o),(h.2.2.2 Χ hb).2⟩⟩
theorem Holds.su (Β:Holds S B σ H) (ξ:∀b,¬H.fresh b->ks H H' b) (Υ:∀b,H'.fresh b->H.fresh b):Holds S B σ H'/\Ext S B H S B H':=by
 have CA:∀b o x,H.aG b o=some x->¬H.fresh b:=λb o x h Φ=>by rw[Φ.1 o] at h;cases h
 refine⟨⟨λb o v h=>?_,Β.len,λid r bo μ ez=>?_,Β.inj,Β.sep⟩,⟨λ_ _ _ h=>h,λb _ Φ=>nm.of (ξ b Φ),λb h=>.inl h,λb o v h=>.inl h,Υ⟩⟩
 ·obtain⟨p,ψ⟩:=Β.dd b o v h;exact⟨p,by rw[(ξ b (CA b o _ ψ)).1];exact ψ⟩
 ·by_cases fc:r.live
  ·refine(Β.row id r bo μ ez).later (b3.refl S B σ) (λb N e=>ξ b (Β.n6 μ fc (by rw[ez,e]))) λm left cur e=>?_;subst e;obtain⟨_,_,aT,kN,xs,clock,seen,_,J,⟨es,γ⟩,_⟩:=Β.row id _ bo μ ez;exact⟨rfl,rfl,λb N hb=>ξ b (Β.n6 γ trivial hb)⟩
  ·cases r<;>first|exact absurd trivial fc|trivial
theorem Ext.su (h:Ext e6 [] H ax [] H') {b:Nat} (Φ:¬H.fresh b):ks H H' b:=(h.fD b (λ⟨N,x⟩=>by simp at x) Φ).su λ_=>rfl
theorem PV {w:World} (cU:Fits H w) (c9:Fits E w) {b o:Nat} {u v:Value} {p q:Bool} (h:H.aG b o=some (u,p)) (k:E.aG b o=some (v,q)):u=v:=by
 have J:=cU.aG b o u p h;rw[c9.aG b o v q k] at J;exact(Option.some.inj J).symm
theorem bβ {w:World} (cU:Fits H w) (c9:Fits E w) (iy:Apart H E) {b N:Nat} {t:TypeId} (μ:E.row b=some (t,N)) (Γ:∀o,o<N->∃v,E.aG b o=some (v,true)):(∀o,H.aG b o=none)/\ks E (join H E) b:=by
 obtain⟨c,J,γ⟩:=c9.row b t N μ;have Η:∀o,H.aG b o=none:=λo=>by
  cases U:H.aG b o with
  | none=>rfl
  | some x=>
   have ζ:=cU.aG b o x.1 x.2 U;by_cases aD:o<N
   ·exact absurd ⟨x,U⟩ (iy.qJ b o (Γ o aD))
   ·simp only[World.cell?,J] at ζ;simp[γ,aD] at ζ
 refine⟨Η,λo=>join_none (Η o),?_,?_⟩
 ·cases U:H.row b with
  | none=>simp only[join,U]
  | some x=>
   obtain⟨c',π,Μ⟩:=cU.row b x.1 x.2 U;rw[J] at π;cases π;simp only[join,U,μ];obtain⟨pT,kO⟩:=x
   simp_all
 ·cases U:H.obj b with
  | none=>simp only[join,U]
  | some x=>
   obtain⟨π,Μ⟩:=cU.obj b x U;rw[J] at π;cases π;simp[Obj.r6] at Μ
theorem PW (Β:Holds S [] [] H) (c9:Holds ht B σ E) (iy:Apart H E) (hw:∃w,Fits H w/\Fits E w) (lR:∀r∈σ,yn r) :
  Holds (S.plus ht) B σ (join H E)/\b3 S (S.plus ht) [] B [] σ/\b3 ht (S.plus ht) B B σ σ:=by
 obtain⟨w,cU,gu⟩:=hw;have st:∀b o v,ht b o=some v->S.plus ht b o=some v:=λb o v h=>by
  cases ο:S b o with
  | none=>rw[ER ο];exact h
  | some u=>
   obtain⟨p,ψ⟩:=Β.dd b o u ο;obtain⟨q,Ρ⟩:=c9.dd b o v h;rw[AX ο,PV cU gu ψ Ρ]
 have l1:b3 S (S.plus ht) [] B [] σ:=⟨λb o v h=>AX h,λid r h=>by simp at h⟩
 have l2:b3 ht (S.plus ht) B B σ σ:=⟨st,λid r h=>⟨r,h,r.tN _⟩⟩
 have mine:∀(id:Nat) (r:Row) (b N:Nat),σ[id]?=some r->B[id]?=some (some (b,N))->(∀o,H.aG b o=none)/\ks E (join H E) b:=λid r b N μ hb=>by
  obtain⟨t,k,l,rfl⟩:=lR r (ck μ);obtain⟨Ζ,_,Ε,_⟩:=c9.row id _ _ μ hb;exact bβ cU gu iy Ζ Ε
 refine⟨⟨λb o v h=>?_,c9.len,λid r bo μ ez=>?_,c9.inj,λid r b N μ fc ez o=>?_⟩,l1,l2⟩
 ·cases ο:S b o with
  | some u=>
   rw[AX ο] at h;cases h;obtain⟨p,ψ⟩:=Β.dd b o _ ο;exact⟨p,join_some ψ⟩
  | none=>
   rw[ER ο] at h;obtain⟨p,ψ⟩:=c9.dd b o v h;cases U:H.aG b o with
   | none=>exact⟨p,by rw[join_none U];exact ψ⟩
   | some x=>
    obtain⟨u,q⟩:=x;have:=PV cU gu U ψ;subst this;exact⟨q,join_some U⟩
 ·refine(c9.row id r bo μ ez).later l2 (λb N e=>(mine id r b N μ (by rw[ez,e])).2) λm left cur e=>?_;subst e;obtain⟨t,k,l,e⟩:=lR _ (ck μ);cases e
 ·have J:=(mine id r b N μ ez).1 o;cases ο:S b o with
  | some u=>
   obtain⟨p,ψ⟩:=Β.dd b o u ο;rw[J] at ψ;cases ψ
  | none=>rw[ER ο];exact c9.sep id r b N μ fc ez o
theorem Jm {o:Nat} {x:Value×Bool} (ξ:G.aG β o=some x) {b:Nat} (Φ:G.fresh b):β<b:=by
 by_cases e:β<b
 ·exact e
 ·rcases Nat.lt_or_ge b β with h|h
  ·have:=(Φ.2.2.2 β h).1 o;rw[ξ] at this;cases this
  ·obtain rfl:β=b:=by omega
   rw[Φ.1 o] at ξ;cases ξ
theorem Jn {b:Nat} (Φ:G.fresh β) (h:β<b):G.fresh b:=
 ⟨(Φ.2.2.2 b h).1,(Φ.2.2.2 b h).2.1,(Φ.2.2.2 b h).2.2,λΧ db=>Φ.2.2.2 Χ (Nat.lt_trans h db)⟩
theorem bγ (e5:∀b o v,S b o=some v->bJ b o≠none\/β<b):nM β bJ (m2 S):=
 ⟨λb o x h=>let ⟨v,J,_⟩:=EP h;e5 b o v J,λb x h=>(by cases h),λb x h=>(by cases h)⟩
theorem nM.join (h:nM β bJ G) (k:nM β bJ E):nM β bJ (join G E):=by
 refine⟨λb o x U=>?_,λb x U=>(aΥ U).elim (h.row b x) (k.row b x),λb x U=>(aΦ U).elim (h.obj b x) (k.obj b x)⟩;cases Υ:G.aG b o with
 | none=>rw[join_none Υ] at U;exact k.aG b o x U
 | some y=>exact h.aG b o y Υ
theorem nM.ext (h:nM β bJ G) {G':Α} (he:Ext S B G ax B' G') (e':∀b,B.has b->β<b) {o:Nat} {x:Value×Bool} (ξ:G.aG β o=some x):nM β bJ G':=by
 have key:∀b,¬β<b->nm S G G' b:=λb hb=>he.fD b (λk=>hb (e' b k)) λk=>hb (Jm ξ k);refine⟨λb o x U=>?_,λb x U=>?_,λb x U=>?_⟩
 ·by_cases hb:β<b
  ·exact .inr hb
  ·rcases(key b hb).1 o with e|⟨v,p,_,e,_⟩
   ·rw[e] at U;exact h.aG b o x U
   ·exact h.aG b o _ e
 ·by_cases hb:β<b
  ·exact hb
  ·rw[(key b hb).2.1] at U;exact h.row b x U
 ·by_cases hb:β<b
  ·exact hb
  ·rw[(key b hb).2.2] at U;exact h.obj b x U
theorem PX {G':Α} (he:Ext S B G ax B' G') (e':¬B.has β) (ξ:∃o x,G.aG β o=some x):∃o x,G'.aG β o=some x:=by
 obtain⟨o,x,U⟩:=ξ;rcases(he.fD β e' (λΦ=>by rw[Φ.1 o] at U;cases U)).1 o with e|⟨v,p,_,_,e⟩
 ·exact⟨o,x,by rw[e];exact U⟩
 ·exact⟨o,_,e⟩
theorem nM.blocks (h:nM β bJ E) (c9:Holds ht B σ E) (lR:∀r∈σ,yn r) {b:Nat} (hb:B.has b):β<b:=by
 obtain⟨N,b8⟩:=hb;obtain⟨id,bW⟩:=List.getElem?_of_mem b8;have aD:id<σ.length:=by rw[<-c9.len];exact(b7.1 bW).1
 have μ:=aW aD;obtain⟨t,k,l,e⟩:=lR _ (ck μ);rw[e] at μ;exact h.row b _ (c9.row id _ _ μ bW).1
theorem bδ (he:Ext fb [] dK S [] H) (e5:∀b o v,bJ b o=some v->S b o=some v) (Φ:dK.fresh β) (hi:nM β bJ E) (Β:Holds S [] [] H) (c9:Holds ht B σ E) (lR:∀r∈σ,yn r) :
  Ext fb [] dK (S.plus ht) B (join H E):=by
 have xU:∀b,¬aR.has ([]:aR) b:=λb ⟨N,h⟩=>by simp at h
 have old:∀b,¬dK.fresh b->¬β<b:=λb h k=>h (Jn Φ k)
 have same:∀b,¬β<b->∀o,(join H E).aG b o=H.aG b o:=λb hb o=>by
  cases U:H.aG b o with
  | some x=>rw[join_some U]
  | none=>
   rw[join_none U];cases Ξ:E.aG b o with
   | none=>rfl
   | some y=>
    rcases hi.aG b o y Ξ with k|k
    ·cases ο:bJ b o with
     | none=>exact absurd ο k
     | some v=>
      obtain⟨p,ψ⟩:=Β.dd b o v (e5 b o v ο);rw[U] at ψ;cases ψ
    ·exact absurd k hb
 refine⟨λb o v h=>AX (he.dd b o v h),λb _ o0=>?_,λb hb=>.inr (Jn Φ (hi.blocks c9 lR hb)),λb o v h=>?_,λb h=>he.grow b ?_⟩
 ·have hb:=old b o0;obtain⟨k1,cC,rn⟩:=he.fD b (xU b) o0;refine⟨λo=>by rw[same b hb o];exact k1 o,?_,?_⟩
  ·cases U:E.row b with
   | none=>rw[<-cC];simp only[join,U];cases H.row b<;>rfl
   | some x=>exact absurd (hi.row b x U) hb
  ·cases U:E.obj b with
   | none=>rw[<-rn];simp only[join,U];cases H.obj b<;>rfl
   | some x=>exact absurd (hi.obj b x U) hb
 ·cases ο:S b o with
  | some u=>rw[AX ο] at h;cases h;exact he.q3 b o _ ο
  | none=>
   rw[ER ο] at h;obtain⟨p,ψ⟩:=c9.dd b o v h;rcases hi.aG b o _ ψ with k|k
   ·cases rJ:bJ b o with
    | none=>exact absurd rJ k
    | some u=>rw[e5 b o u rJ] at ο;cases ο
   ·exact .inr (.inr (Jn Φ k))
 ·have c:∀b o,(join H E).aG b o=none->H.aG b o=none:=λb o h=>by
   cases U:H.aG b o with
   | none=>rfl
   | some x=>rw[join_some U] at h;cases h
  have r:∀b,(join H E).row b=none->H.row b=none:=λb h=>by
   cases U:H.row b with
   | none=>rfl
   | some x=>simp only[join,U] at h;cases h
  have o:∀b,(join H E).obj b=none->H.obj b=none:=λb h=>by
   cases U:H.obj b with
   | none=>rfl
   | some x=>simp only[join,U] at h;cases h
  exact⟨λo'=>c b o' (h.1 o'),r b h.2.1,o b h.2.2.1,λΧ hb=>⟨λo'=>c Χ o' ((h.2.2.2 Χ hb).1 o'),r Χ (h.2.2.2 Χ hb).2.1,o Χ (h.2.2.2 Χ hb).2.2⟩⟩
end
end Go.TL
namespace Go.TL
open Go.Conc Go.Proofs
open Go.ConcN (sumTo upd sumTo_upd upd_ne upd_same sumTo_congr le_sumTo)
noncomputable def under (P:Program):Frame:={(default:Frame) with fn:=P.funcs.size,defers:=[],mode:=.panicking [goexitEntry]}
theorem bε {P:Program} {g:FuncId} {cap:Array Value} (Υ:Plain P g) (w:World):stepG P false (born P ⟨.fn (.func g) cap,#[]⟩) w=.go (Go.Conc.G (Frame.enter P g cap .deferred) [under P]) w #[]:=by
 obtain⟨fn,J,γ,π⟩:=Υ;have hf:¬fn.name = "runtime.NumGoroutine" := by simpa using γ
 have bζ:¬fn.body=none:=by intro e;rw[e] at π;cases π
 simp[born,stepG,unwind,callDeferred,invoke,callFunc,J,hf,bζ,seen,GStep.after,Go.Conc.G,under]
theorem bη {P:Program} {b:Frame} {fn:Func} (cf:P.funcs[b.fn]?=some fn) (eT:fn.results=#[]) (eC:b.defers=[]) (hm:b.mode=.returning) (χ:b.kind=.deferred):k9 P 0 (Go.Conc.G b [under P]):=by
 refine⟨2,QuitsD.ctl (g':=Go.Conc.G (under P) []) rfl (λw=>?_) ?_⟩
 ·simp[Go.Conc.G,stepG,unwind,hm,eC,cf,doReturn,results,eT,χ,under,seen,GStep.after,goexitEntry]
 ·refine QuitsD.ctl (g':={Go.Conc.G (under P) [] with status:=.finished}) rfl (λw=>?_) ⟨rfl,rfl⟩;simp[Go.Conc.G,stepG,unwind,under,goexitEntry,Frame.catches];rfl
def ta (l:List θ):θ:=if l.isEmpty then .sl true 0 [] else .ms 1 l.length 0 l.length
def gC (l:List θ):List Row:=.cells 99 1 [ta l]::bj 110 3 l
theorem Jo:ta []=.sl true 0 []:=rfl
theorem ES {l:List θ} (h:l≠[]):ta l=.ms 1 l.length 0 l.length:=by unfold ta;rw[if_neg (by simpa using h)]
theorem PY {l:List θ} {x:θ}:ta (l++[x])=.ms 1 (l.length+1) 0 (l.length+1):=by rw[ES (by simp)];simp
theorem ET (l:List θ):∀r∈gC l,yn r:=by
 intro r h;unfold gC bj at h;rcases List.mem_cons.1 h with rfl|h
 ·exact⟨_,_,_,rfl⟩
 ·split at h
  ·cases h
  ·simp at h;subst h;exact⟨_,_,_,rfl⟩
def wI (β:Nat) (bJ:aB) (o:Nat) (fd:Nat->Option Found) (L:List Nat) (E:Α):Prop:=
 nM β bJ E/\∃S B,Holds S B (gC ((L.filterMap fd).map c7)) E/\B[0]?=some (some (o,1))
theorem bθ {S ax:aB} {B B':aR} {l dR:List θ} {m:Nat} (h:b3 S ax (B.take m) B' ((gC l).take m) (gC dR)) (hm:0<m):B'[0]?=B[0]?:=by
 obtain⟨m,rfl⟩:∃k,m=k+1:=⟨m-1,by omega⟩;obtain⟨r',J,γ⟩:=h.rows 0 (.cells 99 1 [ta l]) (by simp[gC]);have:r'=.cells 99 1 [ta dR]:=by simpa[gC] using J.symm
 subst this;rcases γ with⟨l2,_,_,π⟩|π
 ·simpa[List.getElem?_take] using π
 ·have:=π 1 (by simp);simp[Row.g4] at this
section
variable {β s m o k:Nat} {S bJ:aB} {fd:Nat->Option Found} {sp:Spec} {dV:aL} {a b:Int} {v1 v2 wJ:Value} {f:Found} {n:Nat}
abbrev l4 (s:Nat) (sp:Spec):aV:=⟨Α.empty,λ_=>none,λ_=>.nil,upd (λ_=>none) s (some sp),λ_=>none,0,false⟩
abbrev EU (s m o:Nat) (v1 v2 wJ:Value):Array Value:=#[ptr s 0,v1,v2,wJ,ptr m 0,ptr o 0]
abbrev Jp (s m o:Nat) (dV:aL) (a b:Int):List θ:=[.z (ptr s 0),.Ψ [aO dV.ae,aI dV.ai,bf dV.cells],.Ψ [R a],.Ψ [R b],.z (ptr m 0),.z (ptr o 0)]
theorem PZ:(l4 s sp).spec s=some sp:=upd_same (λ_=>(none:Option Spec)) s (some sp)
theorem P0 (fi:sp.aT=some m) (gB:sp.top<7):jd (l4 s sp) s m sp:=⟨rfl,rfl,PZ,fi,gB,λ_ _=>trivial⟩
theorem bι (gB:sp.top<7):PT (l4 s sp) s sp:=⟨rfl,rfl,PZ,gB,λ_ _=>trivial⟩
theorem bκ (fi:sp.aT=some m) (gB:sp.top<7) (dQ:sp.D k Α.empty) {Q:Value->Prop} {c:Frame} {H:Α} {v:Option (Nat×aN)} {d1:Deferred} (j8:wc Tryz.prog d1 142 #[ptr s 0])
  (hm:c.mode=.returning) (eC:c.defers=[d1]) (χ:c.kind=.deferred) (cf:c.fn=141):cn Tryz.prog Q false (bw (l4 s sp) s (.ch k .done .work) v 0) c [under Tryz.prog] H:=by
 letI:bm:=ep;have U:Seq (one (bw (l4 s sp) s (.ch k .done .work) v 0)):=Seq.uE trivial rfl rfl;refine aM.deferred (x:=one _) U (by rw[hm];simp) eC j8.t1 j8.t2 j8.run (λy Ξ=>?_) _ rfl;cases Ξ;refine aΤ (bι gB) dQ hm ?_;exact bη (fn:=Tryz.f141) (by rw[cf];exact Tryz.func141) rfl rfl hm χ
theorem bμ (fi:sp.aT=some m) (gB:sp.top<7) (dg:sp.aH=wI β bJ o fd) (dQ:sp.D k Α.empty) {Q:Value->Prop} {c:Frame} {kA:aB} {kB:aR} {jb:Α} {L:List Nat} {v:Option (Nat×aN)} {d1 d2:Deferred}
  (j8:wc Tryz.prog d1 142 #[ptr s 0]) (k':wc Tryz.prog d2 145 #[ptr m 0]) (hm:c.mode=.returning) (eC:c.defers=[d2,d1]) (χ:c.kind=.deferred) (cf:c.fn=141)
  (Β:Holds kA kB (gC (((L++[k]).filterMap fd).map c7)) jb) (e':kB[0]?=some (some (o,1))) (hi:nM β bJ jb) (ξ:∃q x,jb.aG β q=some x) :
  cn Tryz.prog Q false (bw (l4 s sp) s (.ch k (.dc L) .work) v 0) c [under Tryz.prog] jb:=by
 letI:bm:=ep;have U:Seq (one (bw (l4 s sp) s (.ch k (.dc L) .work) v 0)):=Seq.uE trivial rfl rfl;refine aM.deferred (x:=one _) U (by rw[hm];simp) eC k'.t1 k'.t2 k'.run (λy Ξ=>?_) _ rfl;cases Ξ;refine aγ (x:=l4 s sp) (s:=s) (c:={c with defers:=[d1]}) (P0 fi gB) Β hm λjI jJ he kJ=>⟨Α.empty,jJ,⟨Sub.empty _,Sub.refl _,(Apart.tC _).symm⟩,?_,λv2 ik hI _=>?_⟩
 ·rw[dg];obtain⟨dH,p2,p3⟩:=Β.back he kJ;obtain⟨q,x,Ρ⟩:=ξ;exact⟨hi.ext he (λb ⟨N,h⟩=>by simp at h) Ρ,jI,kB,dH,e'⟩
 ·exact bκ fi gB dQ j8 hm rfl χ cf
end
section
variable {β s m o k:Nat} {S bJ:aB} {fd:Nat->Option Found} {sp:Spec} {dV:aL} {a b:Int} {v1 v2 wJ:Value} {f:Found} {n:Nat}
noncomputable abbrev bν (vs:Array Value) (ds:List Deferred):Frame:={Frame.enter Tryz.prog 141 vs .deferred with defers:=ds}
noncomputable def EV:Code:=Tryz.f141.body.getD .skip
theorem bξ (fi:sp.aT=some m) (gB:sp.top<7) (dg:sp.aH=wI β bJ o fd) (dQ:sp.D k Α.empty) (Jq:∀c:bm,@ay c Tryz.prog 78 [c7 f,R (-1)] (R n)) (yo:fd k=if 0<n then some f else none) {Q:Value->Prop}
  {ax:aB} {H' E:Α} {L:List Nat} (Β:Holds ax [] [] H') (c9:sp.aH L E) (iy:Apart H' E) (hw:∃w,Fits H' w/\Fits E w) (hlen:((L.filterMap fd).map c7).length<=4294967295) (o2:nM β bJ H') (bο:∃q x,H'.aG β q=some x)
  {t:Array Value} (ο:de ax [] [] [(4,.z (ptr m 0)),(5,.z (ptr o 0)),(6,.Ψ (c7 f).cells)] t) (cm:t.size=20) {vs:Array Value} {d1:Deferred} (j8:wc Tryz.prog d1 142 #[ptr s 0]) {ops:Array Oper} :
  cn Tryz.prog Q false (bw (l4 s sp) s (.ch k (.dc L) .work) none 0) (ar (bν vs [d1]) t [.inRegion ops [],.code (dC [1,1,1] EV)]) [under Tryz.prog] (join H' E):=by
 letI:bm:=ep;have U:Seq (one (bw (l4 s sp) s (.ch k (.dc L) .work) none 0)):=Seq.uE trivial rfl rfl;rw[dg] at c9;obtain⟨hi,ht,rM,wK,e'⟩:=c9;obtain⟨l,ω⟩:∃l,l=(L.filterMap fd).map c7:=⟨_,rfl⟩;have iD:l.length<=4294967295:=ω▸hlen;rw[<-ω] at wK;obtain⟨Jr,l1,l2⟩:=PW Β wK iy hw (ET l);have k5:∀b,rM.has b->β<b:=λb=>hi.blocks wK (ET l);have EW:∃q x,(join H' E).aG β q=some x:=let ⟨q,x,h⟩:=bο;⟨q,x,join_some h⟩;have aA:t.getD 5 undef=ptr o 0:=by
  have:=ο 5;generalize t.getD 5 undef=u at this;cases this;rfl
 have rJ:de (ax.plus ht) rM (gC l) [(4,.z (ptr m 0)),(5,.al 0 1 0 0),(6,.Ψ (c7 f).cells)] t:=λi=>by
  have ag:=(ο i).later l1;simp only[a3] at ag ⊢;by_cases cy:4=i
  ·simpa[cy] using ag
  by_cases eZ:5=i
  ·subst eZ;simp only[show ¬4=5 by decide,if_false,if_true];rw[aA];have:=ao.al (S:=ax.plus ht) (B:=rM) (σ:=gC l) (id:=0) (n:=1) (i:=0) (j:=0) (k:=1) (t:=99) (l:=[ta l]) (b:=o) (N:=1) (by simp[gC]) rfl e';simpa using this
  ·simpa[cy,eZ] using ag
 have leave:∀(dR:List θ) (ik:aB) (jK:aR) (hI:Α) (c:Frame) (d2:Deferred),dR=((L++[k]).filterMap fd).map c7->eU 1 (ax.plus ht) rM (join H' E) (gC l) ik jK hI (gC dR)->Holds ik jK (gC dR) hI->wc Tryz.prog d2 145 #[ptr m 0]->
   c.mode=.returning->c.defers=[d2,d1]->c.kind=.deferred->c.fn=141->cn Tryz.prog Q false (bw (l4 s sp) s (.ch k (.dc L) .work) none 0) c [under Tryz.prog] hI:=λdR ik jK hI c d2 e bS Js k' c1 c2 c3 c4=>by
  subst e;obtain⟨q,x,Ρ⟩:=EW;exact bμ fi gB dg dQ j8 k' c1 c2 c3 c4 Js (by rw[bθ bS.later (by omega)];exact e') ((o2.join hi).ext bS.ext k5 Ρ) (PX bS.ext (λh=>Nat.lt_irrefl _ (k5 β h)) ⟨q,x,Ρ⟩)
 refine V.here (x:=one _) (m:=1) (nt:=20) (S:=ax.plus ht) (B:=rM) (σ:=gC l) (env:=[(4,.z (ptr m 0)),(5,.al 0 1 0 0),(6,.Ψ (c7 f).cells)]) ?_ ⟨Jr,rJ,cm,by simp[gC]⟩ _ rfl;refine V.bh U rfl ?_;refine W.bF ?_;simp only[EV,Tryz.f141,Option.getD_some,dC]
 repeat first|apply aZ|apply wb|apply a2|apply wd
 refine W.cj (.stop ?_);refine V.defer U rfl rfl rfl rfl rfl rfl rfl ⟨_,Tryz.func145,rfl,rfl⟩ λkA kB jb t3 d2 Jf gI eW sU k'=>?_;obtain rfl:=mV (l:=[ptr m 0]) sU;rintro y rfl;refine V.here (x:=one _) (m:=1) (nt:=20) ?_ eW _ rfl;refine V.bh U rfl ?_;refine W.bF ?_;(repeat (first|apply aZ|apply wb|apply a2|apply wd));refine ν λη I=>?_;simp;(repeat (rw[δ];simp));refine ay.c (Jq _) (aK.refl _) (by simp) (by simp) ?_;simp;(repeat (rw[δ];simp));apply I;by_cases Η:0<n
 ·refine aj (by simp[Η]) ?_;refine W.fL (A:=[19]) Ι [] (gC (l++[c7 f])) (.stop ?_) (by
   by_cases Θ:l=[]
   ·subst Θ;(try simp);(repeat (rw[δ];simp[gC,Jo,iJ]));(try simp[gC,Jo,iJ]);exact⟨rfl,rfl⟩
   ·(try simp);(repeat (rw[δ];simp[gC,ES Θ,dY Θ,PY,sX]));(try simp[gC,ES Θ,dY Θ,PY,sX]);exact iD)
  intro ik jK hI t5 kl lb;refine aM.sm U rfl rfl ?_;rintro y rfl;exact leave _ ik jK hI _ d2 (by rw[List.filterMap_append,List.map_append,<-ω];simp[yo,Η]) (gI.trans kl) lb.holds k' rfl rfl rfl rfl
 ·refine ah (by simp;omega) ?_
  repeat first|apply aZ|apply wb|apply a2|apply wd
  refine W.stop ?_;intro ik jK hI t5 kl lb;refine aM.sm U rfl rfl ?_;rintro y rfl;exact leave _ ik jK hI _ d2 (by rw[List.filterMap_append,List.map_append,<-ω];simp[yo,Η]) (gI.trans kl) lb.holds k' rfl rfl rfl rfl
theorem wL {S:aB} {B:aR} {σ:List Row} {env env':aa} {t:Array Value} (h:de S B σ env t) (ο:∀p∈env',a3 env p.1=p.2):de S B σ env' t:=by
 induction env' with
 | nil=>exact λi=>.cg _
 | cons p l Δ=>
  intro i;simp only[a3];split
  ·rename_i e;have:=ο p (by simp);rw[<-this,e];exact h i
  ·exact Δ (λq Ρ=>ο q (by simp[Ρ])) i
theorem bπ (fi:sp.aT=some m) (gB:sp.top<7) (dg:sp.aH=wI β bJ o fd) (dQ:sp.D k Α.empty) (bρ:∀c:bm,@ay c Tryz.prog 143 [eV dV,az (a,b)] (c7 f))
  (Jq:∀c:bm,@ay c Tryz.prog 78 [c7 f,R (-1)] (R n)) (yo:fd k=if 0<n then some f else none) (bς:∀L:List Nat,L.Nodup->((L.filterMap fd).map c7).length<=4294967295)
  (ξ:∃q v,S β q=some v) (e5:∀b q v,S b q=some v->bJ b q≠none\/β<b) (Jt:fy S [] [] (Jp s m o dV a b) (EU s m o v1 v2 wJ)) {Q:Value->Prop} :
  Goes Tryz.prog Q false (born Tryz.prog ⟨.fn (.func 141) (EU s m o v1 v2 wJ),#[]⟩) {bw (l4 s sp) s (.ch k .idle .work) none 0 with G:=m2 S}:=by
 letI:bm:=ep;have uM:Seq (one (bw (l4 s sp) s (.ch k .idle .work) none 0)):=Seq.uE trivial rfl rfl;refine Quiet.goes (.cons ⟨rfl,rfl⟩ (λw=>bε ⟨_,Tryz.func141,rfl,rfl⟩ w) (.nil _)) (.inl rfl) ⟨rfl,rfl⟩ ?_;show cn Tryz.prog Q false (bw (l4 s sp) s (.ch k .idle .work) none 0) (Frame.enter Tryz.prog 141 (EU s m o v1 v2 wJ) .deferred) [under Tryz.prog] (m2 S);rw[qj (body:=EV) Tryz.func141 rfl];refine V.here (x:=one _) (m:=0) (nt:=20) (S:=S) (B:=[]) (σ:=[]) (env:=entry 0 (Jp s m o dV a b)) ?_ (fx.enter aΩ Jt (Nat.le_refl _) (by simp)) _ rfl;refine V.bh uM rfl ?_;simp only[EV,Tryz.f141,Option.getD_some]
 repeat first|apply aZ|apply wb|apply a2|apply wd
 refine W.cj (.stop ?_);refine V.defer uM rfl rfl rfl rfl rfl rfl rfl ⟨_,Tryz.func142,rfl,rfl⟩ λkA kB jb t3 d1 Jf gI eW sU j8=>?_;obtain rfl:=mV (l:=[ptr s 0]) sU;obtain rfl:kB=[]:=dp.1 eW.holds.len;rintro y rfl;refine V.here (x:=one _) (m:=0) (nt:=20) ?_ eW _ rfl;refine V.bh uM rfl ?_;refine W.bF ?_;(repeat (first|apply aZ|apply wb|apply a2|apply wd));refine dw (A:=[6]) Ι λη I=>?_;simp;(repeat (rw[δ];simp));refine ay.c (bρ _) (aK.refl _) (by simp) (by simp) ?_;simp;(repeat (rw[δ];simp));apply I;refine W.fix (id:=0) (σ':=[]) (Nat.zero_le _) rfl (by simp) (by simp) rfl [(4,.z (ptr m 0)),(5,.z (ptr o 0)),(6,.Ψ (c7 f).cells)] (by simp[entry]) ?_
 repeat first|apply aZ|apply wb|apply a2|apply wd
 refine W.cj (.stop ?_);refine V.call uM ⟨rfl,rfl,by simp[Frame.enter],rfl⟩ rfl rfl rfl ⟨_,Tryz.func144,rfl,rfl⟩ λjI pg jJ t4 aα sT qm I7=>?_;obtain rfl:=mV (l:=[ptr m 0]) I7;obtain rfl:pg=[]:=dp.1 qm.holds.len;rintro y rfl;refine Z4 (P0 fi gB) qm.holds λik hI L E P1 Js c9 iy ⟨kv,L6,hw⟩=>?_;rw[h' rfl];have rh:Ext S [] (m2 S) ik [] hI:=gI.ext.trans (sT.ext.trans P1);obtain⟨h9,u0,EX⟩:=ξ;have k5:∀b,¬aR.has ([]:aR) b:=λb ⟨N,h⟩=>by simp at h
 exact bξ fi gB dg dQ Jq yo Js c9 iy hw (bς L kv) ((bγ e5).ext rh (λb h=>absurd h (k5 b)) (Jl EX)) (PX rh (k5 β) ⟨h9,_,Jl EX⟩)
  (by
   refine de.later (wL (qm.put (a:=.z (.tuple #[])) rfl (.z _)).cp (by simp[ca])) ⟨P1.dd,λid r h=>by simp at h⟩) (qm.put (a:=.z (.tuple #[])) rfl (.z _)).size j8
end
end Go.TL
namespace Go.TL
open Go.Conc Go.Proofs
variable [bm]
noncomputable abbrev bτ (vs:Array Value):Frame:=Frame.enter Tryz.prog 126 vs .normal
abbrev rN (L:Nat):θ:=.fn (.yield L) [] []
structure bυ (Q:Value->Prop) (mn:Bool) (x:gN) (cs:List Frame) (uN:Frame) (o:Base) (L:Nat) (r:Loop) (n:Nat) (je jf:Row) (Fnd:List (List Nat)->Prop):Prop where
 m:o.m=2
 cV:eK 2 je
 bG:eK 2 jf
 cO:r.params.size=1
 round:∀(l:List Nat) (rem:List (List Nat)),Fnd (l::rem)->l.length<=n->(∀x∈l,x<n)->∀(S:aB) (B:aR) (H:Α) (ws:Array Value) (c:Frame),eU 2 o.S o.B o.H o.σ S B H [je,jf,fl l]->Holds S B [je,jf,fl l] H->¬B.has L->H.obj L=some (.loop r)->fy S B [je,jf,fl l] [.ms 2 l.length 0 l.length] ws->
  (Fnd rem->∀(ax:aB) (B':aR) (H':Α),eU 2 o.S o.B o.H o.σ ax B' H' [je,jf,fl l]->b3 S ax B B' [je,jf,fl l] [je,jf,fl l]->Holds ax B' [je,jf,fl l] H'->¬B'.has L->H'.obj L=some (.loop r)->aM Tryz.prog Q mn x (c.finish (.bool true)) (uN::cs) H')->
  (∀H',(∀(cT:aB) (bN:Α),Ext e6 [] H' cT [] bN->aM Tryz.prog Q mn x (uN.finish (.tuple #[])) cs bN)->aM Tryz.prog Q mn x (c.finish (.bool false)) (uN::cs) H')->
  aM Tryz.prog Q mn x (Frame.round L r.fn ((r.params.zip ws).foldl (λtmps (t,a)=>tmps.setIfInBounds t a) r.tmps) r.assign r.body .normal) (c::uN::cs) H
 done:Fnd []->∀(S:aB) (B:aR) (H:Α),eU 2 o.S o.B o.H o.σ S B H [je,jf]->Holds S B [je,jf] H->¬B.has L->H.obj L=some (.loop r)->aM Tryz.prog Q mn x (uN.finish (.tuple #[])) cs H
def rO (c i:Nat):List Int:=(List.range i).map (λj:Nat=>(j:Int))++List.replicate (c-i) 0
theorem bφ {c i:Nat} (h:i<c):(rO c i).set i (i:Int)=rO c (i+1):=by
 unfold rO;have Ζ:((List.range i).map λj:Nat=>(j:Int)).length=i:=by simp
 have Ε:c-i=(c-(i+1))+1:=by omega
 rw[List.set_append_right _ _ (by omega),Ζ,Nat.sub_self,Ε,List.replicate_succ,List.set_cons_zero,List.range_succ,List.map_append];simp
theorem bχ {c i:Nat} (h:i<=c):(rO c i).length=c:=by simp[rO];omega
theorem bψ (c:Nat):(rO c c).map R=(List.range c).map λn:Nat=>R n:=by simp[rO]
section
variable {Q:Value->Prop} {mn:Bool} {x:gN} {cs:List Frame} {uN:Frame} {o:Base} {L:Nat} {r:Loop} {n:Nat} {je jf:Row} {Fnd:List (List Nat)->Prop} {vs:Array Value}
theorem bω (U:Seq x) (Η:n<=10) (hC:bυ Q mn x cs uN o L r n je jf Fnd) (ag:Fnd (h1 n 0)) :
  s6 Tryz.prog Q mn x (bτ vs) (uN::cs) 72 o L r [.code (Tryz.f126.body.getD .skip)] (entry 0 [rN L,.Ψ [R n]]) [je,jf]:=by
 have hm:=hC.m;refine s6.bh U rfl ?_;simp only[Tryz.f126,Option.getD_some];have Ax:=fe (show n<11 by omega) (by omega);(repeat (first|apply κ|(refine ν λη I=>?_;simp;(repeat (rw[δ];simp[Ax]));apply I)));refine W.iter (λc:Nat=>c<=n+1/\Fnd (h1 n c)) (λc=>[(0,rN L),(1,.Ψ [R n]),(9,R ((n:Int)+1)),(10,R c)]) (λ_=>[je,jf]) (λc=>n+1-c) 0 ⟨Nat.zero_le _,ag⟩ rfl (by simp[entry,Ax]) (λc ζ Δ=>?_);obtain⟨ns,gu⟩:=ζ;(repeat (first|apply κ|(refine ν λη I=>?_;simp;(repeat (rw[δ];simp));apply I)));by_cases kH:c<n+1
 ·refine aj (by simp;omega) ?_;(repeat (first|apply κ|(refine ν λη I=>?_;simp;(repeat (rw[δ];simp));apply I)));have jz:(0:Int)<=c:=by omega
  have bΑ:(8:Int)*c<=281474976710656:=by omega
  refine dw (A:=[14]) Ι λη I=>?_;simp;(repeat (rw[δ];simp));(try simp[bΑ]);(repeat (rw[δ];simp));apply I;(repeat (first|apply κ|(refine ν λη I=>?_;simp;(repeat (rw[δ];simp));apply I)));refine W.iter (λi:Nat=>i<=c) (λi=>[(0,rN L),(1,.Ψ [R n]),(9,R ((n:Int)+1)),(10,R c),(3,R c),(4,.ms 2 c 0 c),(16,R c),(17,R i)]) (λi=>[je,jf,.cells 3 1 ((rO c i).map R)]) (λi=>c-i) 0 (Nat.zero_le _) (by simp[rO]) (by simp) (λi hi fK=>?_);(repeat (first|apply κ|(refine ν λη I=>?_;simp;(repeat (rw[δ];simp));apply I)));by_cases nN:i<c
  ·refine aj (by simp[nN]) ?_;have iZ:=fe nN (show c<2 ^ 62 by omega);have C9:=bχ (Nat.le_of_lt nN);have p6:=bφ nN;obtain⟨G,cU⟩:∃G,G=rO c i:=⟨_,rfl⟩;rw[<-cU] at C9 p6 ⊢;have bΒ:i<G.length:=by omega
   (repeat (first|apply κ|(refine ν λη I=>?_;simp;(repeat (rw[δ];simp[C9,nN,bΒ,iZ]));apply I)));refine W.to (fK (i+1) nN (by omega)) ?_ ?_
   ·rw[<-p6];simp
   ·simp[iZ]
  ·have dL:i=c:=by omega
   subst dL;refine ah (by simp) ?_;refine W.exit rfl ?_;rw[bψ]
   repeat apply κ
   refine W.iter (λx:Nat×List Nat=>qx n x.1 x.2=true/\x.2.length=i/\Fnd (ou n x.1 x.2++h1 n (i+1))) (λ_=>[(0,rN L),(1,.Ψ [R n]),(9,R ((n:Int)+1)),(10,R i),(3,R i),(4,.ms 2 i 0 i)]) (λx=>[je,jf,fl x.2]) (λx=>x.1) (300,List.range i)
    ⟨Zq n (by omega) i kH,by simp,by rw[<-Zr kH];exact gu⟩ rfl (by simp) (λx U jM=>?_)
   obtain⟨g,l⟩:=x;obtain⟨dG,iD,Ju⟩:=U;simp only at dG iD Ju ⊢
   repeat apply κ
   refine W.cj ?_;refine W.part (A:=[]) Ι [0,1] [2,3] rfl λη I=>?_;(try simp);(repeat (rw[δ];simp));apply I;refine W.stop ?_;obtain⟨rem,bΓ,P2⟩:∃rem,ou n g l++h1 n (i+1)=l::rem/\((qw n l=none/\rem=h1 n (i+1))\/∃ej af,qw n l=some ej/\g=af+1/\rem=ou n af ej++h1 n (i+1)/\qx n af ej=true):=by
    cases uO:qw n l with
    | none=>exact⟨h1 n (i+1),by rw[Zu uO];rfl,.inl ⟨rfl,rfl⟩⟩
    | some ej=>
     obtain⟨af,Ζ,Ε,aY⟩:=Zv dG uO;exact⟨ou n af ej++h1 n (i+1),by rw[Ε];rfl,.inr ⟨ej,af,rfl,Ζ,rfl,aY⟩⟩
   rw[bΓ] at Ju;have aD:=Zt dG;refine s6.yield U ⟨rfl,rfl,by simp[Frame.enter],rfl⟩ rfl rfl rfl hC.cO.symm λS B H t ws ξ ψ k5 aC hv=>?_;refine hC.round l rem Ju (by omega) aD S B H ws _ (by rw[<-hm];exact ξ) ψ.holds k5 aC (by rw[iD];exact hv) (λJv ax B' H' dO DZ iY bΔ wm=>?_) (λH' ο=>?_)
   ·rw[h' rfl];have AY:de ax B' [je,jf,fl l] [(27,.z (.bool true)),(0,rN L),(1,.Ψ [R n]),(9,R ((n:Int)+1)),(10,R i),(3,R i),(4,.ms 2 i 0 i)] (t.setIfInBounds 27 (.bool true)):=wL (de.put (ψ.cp.later DZ) (d:=27) (by rw[ψ.size];omega) (.z _)) (by simp);refine(s6.bh (env:=[(27,.z (.bool true)),(0,rN L),(1,.Ψ [R n]),(9,R ((n:Int)+1)),(10,R i),(3,R i),(4,.ms 2 i 0 i)]) (σ:=[je,jf,fl l]) (o:=o) (L:=L) (r:=r) (nt:=72) U rfl ?_) ax B' H' _ (by rw[hm];exact dO) ⟨iY,AY,Eq.trans (Array.size_setIfInBounds ..) ψ.size,by rw[hm];simp⟩ bΔ wm;refine W.part (A:=[]) Ι [3] [] rfl λη I=>?_;(try simp);(repeat (rw[δ];simp));apply I;refine W.bF ?_;refine ah rfl ?_;have iq:IntKind.i64.wrap ((i:Int)-1)=(i:Int)-1:=IntWalk.i64_in _ (by omega);(repeat (first|apply κ|(refine ν λη I=>?_;simp;(repeat (rw[δ];simp[iq]));apply I)));refine W.iter (λe:Nat=>e<=i/\qv n l i=qv n l e) (λe=>[(0,rN L),(1,.Ψ [R n]),(9,R ((n:Int)+1)),(10,R i),(3,R i),(4,.ms 2 i 0 i),(6,R ((e:Int)-1))]) (λ_=>[je,jf,fl l]) (λe=>e) i ⟨Nat.le_refl _,rfl⟩ rfl (by simp[iq]) (λe he zu=>?_);obtain⟨lΝ,P3⟩:=he
    repeat apply κ
    have wy:=fe kH (show n+1<2 ^ 62 by omega)
    have oc:qw n l=(qv n l e).map λq=>mW l q (l.length-q):=by unfold qw;rw[iD,P3]
    cases e with
    | zero=>
     have GW:rem=h1 n (i+1):=by
      rcases P2 with⟨_,h⟩|⟨ej,af,h,_⟩
      ·exact h
      ·rw[oc] at h;simp[qv] at h
     rw[GW] at Jv;refine W.draw (A:=[]) Ι mixed λη I=>?_;simp;(repeat (rw[ba];simp));try rw[a']
     refine⟨bK (by kernel_rfl),I _ _ ?_⟩;refine ah rfl ?_;refine W.exit rfl ?_;(repeat (first|apply κ|(refine ν λη I=>?_;simp;(repeat (rw[δ];simp));apply I)));refine aj rfl ?_;refine W.exit rfl ?_;refine W.drop (h:=2) (σ':=[je,jf]) (by rw[hm];exact Nat.le_refl _) (by simp) (λid q bW Ρ=>by
      match id,bW,Ρ with
      | 0,_,Ρ=>simp at Ρ;subst Ρ;exact hC.cV
      | 1,_,Ρ=>simp at Ρ;subst Ρ;exact hC.bG) rfl [(0,rN L),(1,.Ψ [R n]),(9,R ((n:Int)+1)),(10,R i)] (by simp[lP]) ?_
     (repeat (first|apply κ|(refine ν λη I=>?_;simp;(repeat (rw[δ];simp[wy]));apply I)));refine W.to (Δ (i+1) ⟨kH,Jv⟩ (by omega)) rfl ?_;simp[wy]
    | succ e=>
     have np:e<l.length:=by omega
     have hle:=aD _ (List.getElem_mem np)
     have EY:l.getD e 0=l[e]:=by simp[List.getD_eq_getElem?_getD,np]
     have hO:IntKind.i64.wrap ((n:Int)-i)=(n:Int)-i:=IntWalk.i64_in _ (by omega)
     have jg:IntKind.i64.wrap ((n:Int)-i+e)=(n:Int)-i+e:=IntWalk.i64_in _ (by omega)
     have px:IntKind.i64.wrap ((e:Int)-1)=(e:Int)-1:=IntWalk.i64_in _ (by omega)
     have P4:e<i:=by omega
     have rJ:((e+1:Nat):Int)-1=e:=by omega
     rw[rJ];refine W.draw (A:=[]) Ι mixed λη I=>?_;simp;(repeat (rw[ba];simp[np,P4,iD,hO,jg]));try rw[a']
     refine⟨bK (by kernel_rfl),I _ _ ?_⟩;by_cases Ρ:l[e]+i=n+e
     ·have EZ:qv n l (e+1)=qv n l e:=by rw[qv,if_pos (by rw[EY,iD];exact Ρ)]
      refine aj (by simp;omega) ?_;(repeat (first|apply κ|(refine ν λη I=>?_;simp;(repeat (rw[δ];simp[px]));apply I)));refine W.to (zu e ⟨by omega,by rw[P3,EZ]⟩ (by omega)) rfl ?_;simp[px]
     ·have EZ:qv n l (e+1)=some e:=by rw[qv,if_neg (by rw[EY,iD];exact Ρ)]
      refine ah (by simp;omega) ?_;refine W.exit rfl ?_;(repeat (first|apply κ|(refine ν λη I=>?_;simp;(repeat (rw[δ];simp));apply I)));refine ah (by simp) ?_;obtain⟨ej,af,hX,P5,bΕ,bΖ⟩:∃ej af,qw n l=some ej/\g=af+1/\rem=ou n af ej++h1 n (i+1)/\qx n af ej=true:=by
       rcases P2 with⟨h,_⟩|h
       ·rw[oc,EZ] at h;cases h
       ·exact h
      have hY:ej=mW l e (i-e):=by
       rw[oc,EZ] at hX;simp at hX;rw[<-hX,iD]
      have bΗ:IntKind.i64.wrap ((l[e]:Int)+1)=(l[e]:Int)+1:=IntWalk.i64_in _ (by omega)
      have P6:IntKind.i64.wrap ((e:Int)+1)=(e:Int)+1:=IntWalk.i64_in _ (by omega);(repeat (first|apply κ|(refine ν λη I=>?_;simp;(repeat (rw[δ];simp[np,P4,iD,bΗ,P6]));apply I)));refine W.iter (λp:Nat=>e+1<=p/\p<=i) (λp=>[(0,rN L),(1,.Ψ [R n]),(9,R ((n:Int)+1)),(10,R i),(3,R i),(4,.ms 2 i 0 i),(7,R p)]) (λp=>[je,jf,fl (mW l e (p-e))]) (λp=>i-p) (e+1) ⟨Nat.le_refl _,by omega⟩ (by
       have:e+1-e=1:=by omega
       rw[this,Zw np];simp) (by simp[P6]) (λp ψ aE=>?_)
      obtain⟨mN,mO⟩:=ψ;(repeat (first|apply κ|(refine ν λη I=>?_;simp;(repeat (rw[δ];simp));apply I)));by_cases P7:p<i
      ·refine aj (by simp[P7]) ?_;obtain⟨q,P8⟩:∃q,q=p-1:=⟨_,rfl⟩;obtain⟨Ω,bb⟩:∃Ω,Ω=mW l e (p-e):=⟨_,rfl⟩;have uw:Ω.length=i:=by rw[bb,Pa (by omega),iD]
       have P9:q<Ω.length:=by omega
       have bΘ:p<Ω.length:=by omega
       have bΙ:q<i:=by omega
       have E0:Ω[q]=l[e]+(p-e):=by
        have:=Zx (l:=l) (i:=e) (k:=p-e) (by omega) (by omega)
        have Ζ:e+(p-e)-1=q:=by omega
        rw[Ζ,<-bb,EY] at this;simpa[List.getD_eq_getElem?_getD,P9] using this
       have ra:Ω.set p (Ω[q]+1)=mW l e (p+1-e):=by
        have:=Zy (l:=l) (i:=e) (k:=p-e) (by omega)
        have Ζ:e+(p-e)=p:=by omega
        have Ε:p-e+1=p+1-e:=by omega
        rw[Ζ,Ε,<-bb,EY,<-E0] at this;exact this
       have Jw:Ω[q]<100:=by omega
       have bΚ:IntKind.i64.wrap ((p:Int)-1)=(q:Int):=by rw[IntWalk.i64_in _ (by omega)];omega
       have bΜ:IntKind.i64.wrap ((Ω[q]:Int)+1)=(Ω[q]:Int)+1:=IntWalk.i64_in _ (by omega)
       have P':IntKind.i64.wrap ((p:Int)+1)=(p:Int)+1:=IntWalk.i64_in _ (by omega);rw[<-bb];(repeat (first|apply κ|(refine ν λη I=>?_;simp;(repeat (rw[δ];simp[bΚ,P9,bΘ,bΙ,P7,uw,bΜ,P']));apply I)));refine W.to (aE (p+1) ⟨by omega,by omega⟩ (by omega)) ?_ ?_
       ·rw[<-ra];simp
       ·simp[P']
      ·have Jx:p=i:=by omega
       subst Jx;refine ah (by simp) ?_;refine W.exit rfl ?_
       repeat apply κ
       refine W.to (jM (af,ej) ⟨bΖ,by rw[hY,Pa (by omega),iD],by rw[<-bΕ];exact Jv⟩ (by show af<g;omega)) (by rw[hY]) ?_;simp
   ·rw[h' rfl];have AY:de e6 [] [] [(27,.z (.bool false))] (t.setIfInBounds 27 (.bool false)):=λj=>by
     simp only[a3];split
     ·rename_i e;subst e;have:(t.setIfInBounds 27 (Value.bool false)).getD 27 undef=.bool false:=by
       have bΝ:27<t.size:=by rw[ψ.size];omega
       simp[Array.getD_eq_getD_getElem?,bΝ]
      rw[this];exact .z _
     ·exact .cg _
    refine V.here (m:=0) (nt:=72) (S:=e6) (B:=[]) (σ:=[]) (env:=[(27,.z (.bool false))]) ?_ ⟨yh H',AY,Eq.trans (Array.size_setIfInBounds ..) ψ.size,Nat.zero_le _⟩;refine V.bh U rfl ?_;refine W.part (A:=[]) Ι [3] [] rfl λη I=>?_;(try simp);(repeat (rw[δ];simp));apply I;refine W.bF ?_;refine aj rfl ?_;refine W.stop ?_;refine V.IS U rfl rfl rfl rfl Tryz.func126 rfl λbJ bO H1 oi jy=>?_;obtain rfl:bO=[]:=dp.1 jy.len;exact ο bJ H1 oi.ext
 ·have wq:c=n+1:=by omega
  subst wq;refine ah (by simp) ?_;refine W.exit rfl ?_;refine W.stop ?_;intro S B H t ξ ψ k5 aC;rw[Zs] at gu;refine aM.sm U rfl rfl (aM.back U rfl rfl (.inl rfl) Tryz.func126 ?_);rw[results_none rfl];rw[hm] at ξ;exact υ.pure' (hC.done gu S B H ξ ψ.holds k5 aC)
end
theorem bΞ (n:Nat):ay Tryz.prog 83 [R n] (.fn (.func 126) [] [.Ψ [R n]]):=by
 refine ak.body Ι Tryz.func83 rfl rfl Tryz.ntmps83 rfl rfl (by simp) ?_;(repeat (first|apply κ|(refine ν λη I=>?_;simp;(repeat (rw[δ];simp));apply I)));refine W.ret ⟨_,rfl,?_,rfl⟩;exact .refl _
theorem Ext.Qa {S:aB} {B:aR} {H:Α} {r:Nat} {y:Obj} (Φ:H.fresh r):Ext S B H S B (H.bI r y):=
 ⟨λ_ _ _ h=>h,λb _ hb=>by
  have:b≠r:=λe=>hb (e▸Φ);exact nm.of ⟨λ_=>rfl,rfl,by simp[Α.bI,this]⟩,λb h=>.inl h,λb o v h=>.inl h,Α.G3⟩
theorem Holds.Qb {S:aB} {B:aR} {σ:List Row} {H:Α} (Β:Holds S B σ H) (lR:∀r∈σ,yn r) {b:Nat} (Φ:H.fresh b):¬B.has b:=λ⟨N,b8⟩=>by
 obtain⟨id,bW⟩:=List.getElem?_of_mem b8;have aD:id<σ.length:=by rw[<-Β.len];exact(b7.1 bW).1
 have μ:=aW aD;obtain⟨t,k,l,e⟩:=lR _ (ck μ);rw[e] at μ;exact Β.n6 μ trivial bW Φ
def rP (s:aL) (F:List Found) (cell:Int) (lower:Bool):List Int×Int:=
 if(mP s cell F).2.2≠0 then([],(mP s cell F).2.2)
 else match (h1 s.ai.length 0).find? (lX s F cell.toNat lower) with
 | some l=>(l.map λn:Nat=>(n:Int),0)
 | none=>([],11)
abbrev ow:Row:=.cells 29 1 [.sl true 0 []]
abbrev ox:Row:=.cells 38 1 [R 0]
abbrev yp (s:aL) (F:List Found) (cell:Int) (lower:Bool):aa:=[(3,.Ψ [aO s.ae,aI s.ai,bf s.cells]),(4,.Ψ [R cell]),(5,.Ψ [a4 lower]),(6,.al 0 1 0 0),(7,.al 1 1 0 0),(8,.Ψ [aO s.ae,aI s.ai,bf s.cells]),(9,.Ψ [cQ F])]
section
variable {Q:Value->Prop} {mn:Bool} {x:gN} {c:Frame} {rest:List Frame} {fb S:aB} {B:aR} {dK H:Α} {σ:List Row} {res:List Int×Int} {l:List Int} {eE:Int} {e:Bool} {kk:Nat} {b:Frame} {t:Array Value} {k:List Item} {env:aa}
theorem Qc (U:Seq x) (lO:vU Tryz.prog Q mn x c rest fb [] dK [] (λa s=>cG a (.bn [aP R 1 res.1,R res.2])/\s=[]) (λ_ _=>False)) (cf:b.fn=28) (gJ:b.kind=.normal) (eC:b.defers=[]) (bΟ:b.mode=.returning)
  (he:Ext fb [] dK S B H) (Β:Holds S B σ H) (ο:de S B σ env b.tmps) (bc:a3 env 6=.al 0 1 0 0) (gK:a3 env 7=.al 1 1 0 0) (bΡ:σ[0]?=some (.cells 29 1 [.sl e kk (l.map R)])) (bΤ:σ[1]?=some (.cells 38 1 [R eE])) (eT:res=(l,eE)) (χ:l≠[]->kk=1):aM Tryz.prog Q mn x b (c::rest) H:=by
 subst eT;refine aM.back U bΟ eC (.inl gJ) (fn:=Tryz.f28) (by rw[cf];exact Tryz.func28) ?_;refine υ.mono (λv hI ⟨ik,jK,eZ,vb,aA,y2⟩=>?_) (λ_ _ h=>h) _ (DC Ι (a:=.bn [.sl e kk (l.map R),R eE]) (show ri a6 [.cell 6 29,.cell 7 38] env σ=some (.bn [.sl e kk (l.map R),R eE]) by simp[ri,sK,xT,bc,gK,bΡ,bΤ,vW,ia.agg,Dz]) Β ο);obtain⟨J,γ⟩:=aA.close (h:=0) (λid r bW=>by omega);simp only[List.take_zero] at J γ;have μ:ao (ik.close jK σ hI 0) [] [] (.bn [.sl e kk (l.map R),R eE]) v:=by
  have hb:au 0 (.bn [.sl e kk (l.map R),R eE]):=by simp
  have:=(y2.later (b3.refl ik jK σ)).any hb [] [];exact this.later ⟨λb o v hv=>γ.dd _ _ _ hv,λid r h=>by simp at h⟩
 have E1:=he.trans (eZ.trans γ);refine lO.ret _ [] _ [] hI v ⟨?_,rfl⟩ E1 ⟨E1.dd,λid r h=>by simp at h⟩ J μ;refine .bn (.cons ?_ (.cons (.refl _) .nil));by_cases ω:l=[]
 ·subst ω;exact .nil
 ·rw[χ ω];exact .ex
end
end Go.TL
