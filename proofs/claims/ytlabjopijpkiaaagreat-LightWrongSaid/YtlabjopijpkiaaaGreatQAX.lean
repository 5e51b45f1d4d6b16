import Derived.Test.YtlabjopijpkiaaaGreatQAW
set_option maxHeartbeats 16000000
set_option maxRecDepth 20000
set_option linter.unusedSectionVars false
set_option linter.unusedSimpArgs false
set_option linter.unusedVariables false
namespace Go.TL
open Go.Conc Go.Proofs
open Go.ConcN (sumTo upd sumTo_upd upd_ne upd_same sumTo_congr le_sumTo)
structure lR (x:aU) (s:Nat) (sp:Spec):Prop where
 rel:x.rel=false
 aF:x.aF=λ_=>none
 spec:x.spec s=some sp
 top:sp.top<7
 still:∀bq,bq≠s->m1 (x.tok bq)
theorem lR.seq {x:aU} {s:Nat} {sp:Spec} (h:lR x s sp):∀t v d,@Seq eS (one (bx x s t v d)):=λt v d=>@Seq.uB eS _ trivial h.rel h.aF
abbrev hZ (c w:Nat):Int:=(c:Int)*4294967296+w
theorem EK:∀c<8,∀w<2,gz .u64 (hZ c w) 2147483648=0:=by decide +kernel
theorem EL:∀c<8,∀w<2,IntKind.i32.wrap ((hZ c w).fdiv (2 ^ min 32 IntKind.u64.bits))=c:=by decide +kernel
theorem EM:∀c<8,∀w<2,IntKind.u32.wrap (gz .u64 (hZ c w) 2147483647)=w:=by decide +kernel
theorem Y1:∀c<7,∀w<2,IntKind.u64.wrap (hZ c w+4294967296)=hZ (c+1) w:=by decide +kernel
theorem Y2:∀c<8,∀w<2,0<c->IntKind.u64.wrap (hZ c w+18446744069414584320)=hZ (c-1) w:=by decide +kernel
theorem Y3:∀c<8,IntKind.u64.wrap (hZ c 0+1)=hZ c 1:=by decide +kernel
theorem OY:IntKind.u64.wrap 1=1:=by decide
theorem OZ:IntKind.u64.wrap (2 ^ min 32 IntKind.u64.bits)=4294967296:=by decide
theorem IS:IntKind.i32.wrap 1=1:=by decide
theorem uH (ς:aM):cN ς=hZ ς.cnt ς.wt:=rfl
section
variable {Q:Value->Prop} {mn:Bool} {x:aU} {c:Frame} {rest:List Frame} {S:aC} {B:aP} {σ:List Row} {H:ψ} {s k:Nat} {sp:Spec} {v:Option (Nat×aM)} {t:Tok}
theorem EN (ζ:lR x s sp) {ς:aM} (h:ς.toSpec=sp):ς.top<7:=by have:=ζ.top;rw[show ς.top=sp.top by rw[<-h]];exact this
def yx (Q:Value->Prop) (mn:Bool) (x:aU) (c:Frame) (rest:List Frame) (S:aC) (H:ψ) (r:Value):Prop:=
 ∀(ay:aC) (H':ψ),Ext S [] H ay [] H'->Holds ay [] [] H'->cq Tryz.prog Q mn x (c.finish r) rest H'
theorem Y4 (ζ:lR x s sp) (cQ:¬fO t) {d:Int} (Β:Holds S B σ H)
  (dq:∀φ ς,Seen (bx x s t v 1) s sp φ ς->∃o' t',cN o'=IntKind.u64.wrap (cN ς+d)/\o'.cH=ς.cH/\ru ς o'/\Act ς t o' t'/\∀cn,cn<φ->yx Q mn (bx x s t' (some (cn,o')) 1) c rest S H (.int .u64 (cN o'))) :
  cq Tryz.prog Q mn (bx x s t v 1) (Frame.enter Tryz.prog 166 #[ptr s 0,.int .u64 d] .normal) (c::rest) H:=by
 letI:bn:=eS;have U:=ζ.seq;refine V.p' (z:=one _) (vs:=[ptr s 0,.int .u64 d]) Tryz.func166 rfl Β (by simp[Tryz.ntmps166]) ?_ _ rfl;refine V.a' (U _ _ _) rfl ?_;(repeat (first|apply aZ|apply wb|apply a3|apply wd|refine al rfl ?_|refine aj rfl ?_|(refine ξ λη I=>?_;simp;(repeat (rw[δ];simp));apply I)));refine W.cl ?_;refine W.part (A:=[]) Κ [0,1,2,3] [4,5] rfl λη I=>?_;(try simp);(repeat (rw[δ];simp));apply I;refine W.stop ?_;refine V.Ix (U _ _ _).here (Nat.succ_pos _) (sp:=sp) ζ.spec (by rw[b3];exact cQ) ⟨⟨rfl,rfl,by simp[Frame.enter],rfl⟩,OC,⟨_,rfl⟩,rfl,rfl,rfl⟩ (λφ ς ο=>?_);obtain⟨o',t',J,γ,π,Μ,aB⟩:=dq φ ς ο;refine⟨o',t',J,γ,π,by rw[b3];exact Μ,λcn et=>?_⟩;rw[gX];refine V.a' (U _ _ _) rfl ?_;refine W.part (A:=[]) Κ [5] [] rfl λη I=>?_;(try simp);(repeat (rw[δ];simp));(try simp[]);apply I;refine W.bJ (.stop ?_);refine V.sP (U _ _ _) rfl rfl rfl rfl Tryz.func166 rfl rfl λbB bG H1 ν jz=>?_;obtain rfl:bG=[]:=dp.1 jz.len;rintro y rfl;exact aB cn et bB H1 ν.ext jz
theorem IT (ζ:lR x s sp) (cQ:¬fO t) (Β:Holds S B σ H)
  (dq:∀φ ς,Seen (bx x s t v 1) s sp φ ς->yx Q mn (bx x s t (some (φ,ς)) 1) c rest S H (.int .u64 (cN ς))\/∃t',Act ς t ς t'/\∀cn,cn<φ->yx Q mn (bx x s t' (some (cn,ς)) 1) c rest S H (.int .u64 (cN ς))) :
  cq Tryz.prog Q mn (bx x s t v 1) (Frame.enter Tryz.prog 168 #[ptr s 0] .normal) (c::rest) H:=by
 letI:bn:=eS;have U:=ζ.seq;refine V.p' (z:=one _) (vs:=[ptr s 0]) Tryz.func168 rfl Β (by simp[Tryz.ntmps168]) ?_ _ rfl;refine V.a' (U _ _ _) rfl ?_;(repeat (first|apply aZ|apply wb|apply a3|apply wd|refine al rfl ?_|refine aj rfl ?_|(refine ξ λη I=>?_;simp;(repeat (rw[δ];simp));apply I)));refine W.cl ?_;refine W.part (A:=[]) Κ [0,1,2] [3,4] rfl λη I=>?_;(try simp);(repeat (rw[δ];simp));apply I;refine W.stop ?_;refine V.Iw (U _ _ _).here (Nat.succ_pos _) (sp:=sp) ζ.spec (by rw[b3];exact cQ) ⟨⟨rfl,rfl,by simp[Frame.enter],rfl⟩,OD,⟨_,rfl⟩,rfl,rfl,rfl⟩ (λφ ς ο=>(dq φ ς ο).imp (λh=>?_) (λ⟨t',Μ,aB⟩=>⟨t',by rw[b3];exact Μ,λcn et=>?_⟩))
 ·unfold h8;rw[j5];refine V.a' (U _ _ _) rfl ?_;refine W.part (A:=[]) Κ [4] [] rfl λη I=>?_;(try simp);(repeat (rw[δ];simp));(try simp[]);apply I;refine W.bJ (.stop ?_);refine V.sP (U _ _ _) rfl rfl rfl rfl Tryz.func168 rfl rfl λbB bG H1 ν jz=>?_;obtain rfl:bG=[]:=dp.1 jz.len;rintro y rfl;exact h bB H1 ν.ext jz
 ·rw[gX];refine V.a' (U _ _ _) rfl ?_;refine W.part (A:=[]) Κ [4] [] rfl λη I=>?_;(try simp);(repeat (rw[δ];simp));(try simp[]);apply I;refine W.bJ (.stop ?_);refine V.sP (U _ _ _) rfl rfl rfl rfl Tryz.func168 rfl rfl λbB bG H1 ν jz=>?_;obtain rfl:bG=[]:=dp.1 jz.len;rintro y rfl;exact aB cn et bB H1 ν.ext jz
theorem Y5 (ζ:lR x s sp) (cQ:¬fO t) (Β:Holds S B σ H) {old new:Int}
  (AR:∀φ ς,Seen (bx x s t v 1) s sp φ ς->¬cN ς=old->yx Q mn (bx x s t (some (φ,ς)) 1) c rest S H (.bool false))
  (dq:∀φ ς,Seen (bx x s t v 1) s sp φ ς->cN ς=old->∃o' t',cN o'=new/\o'.cH=ς.cH/\ru ς o'/\Act ς t o' t'/\∀cn,cn<φ->yx Q mn (bx x s t' (some (cn,o')) 1) c rest S H (.bool true)) :
  cq Tryz.prog Q mn (bx x s t v 1) (Frame.enter Tryz.prog 179 #[ptr s 0,.int .u64 old,.int .u64 new] .normal) (c::rest) H:=by
 letI:bn:=eS;have U:=ζ.seq;refine V.p' (z:=one _) (vs:=[ptr s 0,.int .u64 old,.int .u64 new]) Tryz.func179 rfl Β (by simp[Tryz.ntmps179]) ?_ _ rfl;refine V.a' (U _ _ _) rfl ?_;(repeat (first|apply aZ|apply wb|apply a3|apply wd|refine al rfl ?_|refine aj rfl ?_|(refine ξ λη I=>?_;simp;(repeat (rw[δ];simp));apply I)));refine W.cl ?_;refine W.part (A:=[]) Κ [0,1,2,3,4] [5,6] rfl λη I=>?_;(try simp);(repeat (rw[δ];simp));apply I;refine W.stop ?_;refine V.X7 (U _ _ _).here (Nat.succ_pos _) (sp:=sp) ζ.spec (by rw[b3];exact cQ) ⟨⟨rfl,rfl,by simp[Frame.enter],rfl⟩,Yz,⟨_,rfl⟩,rfl,rfl,rfl⟩ (λφ ς ο hv=>?_) (λφ ς ο hv=>?_)
 ·have h:=AR φ ς ο hv;unfold h8;rw[j5];refine V.a' (U _ _ _) rfl ?_;refine W.part (A:=[]) Κ [6] [] rfl λη I=>?_;(try simp);(repeat (rw[δ];simp));(try simp[]);apply I;refine W.bJ (.stop ?_);refine V.sP (U _ _ _) rfl rfl rfl rfl Tryz.func179 rfl rfl λbB bG H1 ν jz=>?_;obtain rfl:bG=[]:=dp.1 jz.len;rintro y rfl;exact h bB H1 ν.ext jz
 ·obtain⟨o',t',J,γ,π,Μ,aB⟩:=dq φ ς ο hv;refine⟨o',t',J,γ,π,by rw[b3];exact Μ,λcn et=>?_⟩;rw[gX];refine V.a' (U _ _ _) rfl ?_;refine W.part (A:=[]) Κ [6] [] rfl λη I=>?_;(try simp);(repeat (rw[δ];simp));(try simp[]);apply I;refine W.bJ (.stop ?_);refine V.sP (U _ _ _) rfl rfl rfl rfl Tryz.func179 rfl rfl λbB bG H1 ν jz=>?_;obtain rfl:bG=[]:=dp.1 jz.len;rintro y rfl;exact aB cn et bB H1 ν.ext jz
end
theorem ff.fR {m nt:Nat} {S ay:aC} {B:aP} {H H':ψ} {env:Ω} {t:Array Value} (h:ff m nt S B H [] env t) (he:∀p∈env,∃v,p.2=θ.z v) (Β:Holds ay [] [] H'):ff 0 nt ay [] H' [] env t:=⟨Β,A3 he h.b6,h.size,Nat.le_refl _⟩
theorem cq.IU [bn] {P:Program} {Q:Value->Prop} {mn:Bool} {x:aU} {c b:Frame} {rest:List Frame} {H:ψ} {t:Array Value} {k:List Item} {fn:Func} {f:FuncId} (U:Seq (one x)) (hF:Seq (one {x with deaf:=x.deaf-1})) (hd:0<x.deaf) (hb:b.mode=.run) (cf:b.roundOf=none) (eo:b.defers=[Go.Conc.dcall f #[]]) (gq:b.kind=.normal) (bY:P.funcs[b.fn]?=some fn) (eY:fn.results=#[])
  (he:Entry P f (λ_=>do mark .enable;pure Extern.Race.none_)) (h:cq P Q mn {x with deaf:=x.deaf-1} (c.finish (.tuple #[])) rest H):cq P Q mn x (au b t (.code .ret::k)) (c::rest) H:=by
 refine aE.ret (x:=one x) U hb cf (λy Ο=>?_) x rfl;cases Ο;refine cq.Yc U.here hd hb cf eo he ?_;refine aE.back (f:={au {b with defers:=[]} t (.code .ret::k) with mode:=.returning}) (x:=one {x with deaf:=x.deaf-1}) hF rfl rfl (.inl gq) bY ?_ _ rfl;rw[results_none eY];refine υ.pure' (λy Ο=>?_);cases Ο;exact h
section
variable {Q:Value->Prop} {mn:Bool} {x:aU} {c:Frame} {rest:List Frame} {S:aC} {B:aP} {σ:List Row} {H:ψ} {s n p:Nat} {sp:Spec} {v:Option (Nat×aM)} {t:Tok}
theorem Y6 (ζ:lR x s sp) (Ι:n<sp.top) (Β:Holds S B σ H)
  (Θ:∀v,yx Q mn (bx x s (.par (n+1) (p+1) .add) v 0) c rest S H (.tuple #[])) :
  cq Tryz.prog Q mn (bx x s (.par n p .add) v 0) (Frame.enter Tryz.prog 140 #[ptr s 0,.int .i64 1] .normal) (c::rest) H:=by
 letI:bn:=eS;have U:=ζ.seq;refine V.p' (z:=one _) (vs:=[ptr s 0,.int .i64 1]) Tryz.func140 rfl Β (by simp[Tryz.ntmps140]) ?_ _ rfl;refine V.a' (U _ _ _) rfl ?_;(repeat (first|apply aZ|apply wb|apply a3|apply wd|refine al rfl ?_|refine aj rfl ?_|(refine ξ λη I=>?_;simp;(repeat (rw[δ];simp));apply I)));refine W.cl (.stop ?_);refine V.disable (U _ _ _).here ⟨⟨rfl,rfl,by simp[Frame.enter],rfl⟩,AW,⟨_,rfl⟩,rfl,rfl,rfl⟩ ?_;rw[AS];refine V.a' (U _ _ _) rfl ?_;refine W.bJ ?_
 repeat first|apply aZ|apply wb|apply a3|apply wd
 refine W.cl (.stop ?_);refine V.Iz (U _ _ _) ⟨rfl,rfl,by simp[Frame.enter],rfl⟩ rfl rfl rfl ?_;refine V.a' (U _ _ _) rfl ?_;refine W.bJ ?_;(repeat (first|apply aZ|apply wb|apply a3|apply wd|refine al rfl ?_|refine aj rfl ?_|(refine ξ λη I=>?_;simp;(repeat (rw[δ];simp));apply I)));refine W.cl (.stop ?_);refine V.EB (U _ _ _) (vs:=[]) ⟨⟨rfl,rfl,by simp[Frame.enter],rfl⟩,OA,⟨_,rfl⟩,rfl,rfl,rfl⟩ ?_;refine V.a' (U _ _ _) rfl ?_;refine W.bJ ?_;(repeat (first|apply aZ|apply wb|apply a3|apply wd|refine al rfl ?_|refine aj rfl ?_|(refine ξ λη I=>?_;simp;(repeat (rw[δ];simp));apply I)));refine W.cl ?_;refine W.part (A:=[]) Κ [0,1,2,3,4,5] [6,7] rfl λη I=>?_;(try simp);(repeat (rw[δ];simp[OY,OZ]));(try simp[OY,OZ]);apply I;refine W.stop ?_;refine V.call (U _ _ _) ⟨rfl,rfl,by simp[Frame.enter],rfl⟩ rfl rfl rfl ⟨_,Tryz.func166,rfl,rfl⟩ λbB bG H1 t1 oW ν ω hv=>?_;obtain rfl:=mH (l:=[ptr s 0,.int .u64 4294967296]) hv;obtain rfl:bG=[]:=dp.1 ω.holds.len;rintro y rfl;refine Y4 ζ id ω.holds λφ ς ο=>?_;have χ:=ο.jf.sT;rw[b3] at χ;obtain⟨Ρ,ag,aV,cr,gO⟩:=χ.add n p rfl;have gE:=EN ζ ο.spec;have qR:n<ς.top:=by rw[show ς.top=sp.top by rw[<-ο.spec]];exact Ι
 have small:∀a b c d:Nat,a=b+1->b<=c->c<d->d<7->a<8/\b<7/\0<a/\¬a=0:=λa b c d J γ π Μ=>by omega
 obtain⟨cc,ml⟩:∃cc,cc=ς.cnt+1:=⟨_,rfl⟩;obtain⟨k1,cy,pK,iΤ⟩:=small cc ς.cnt n ς.top ml gO qR gE;have qJ:cN {ς with cnt:=cc}=hZ cc 0:=by rw[uH];simp only[Ρ]
 refine⟨{ς with cnt:=cc},.par (n+1) (p+1) .add,?_,rfl,⟨rfl,rfl,rfl⟩,by rw[ml];exact .add qR,λcn et cU bO kX iZ=>?_⟩
 ·rw[qJ,uH,Ρ,Y1 ς.cnt cy 0 (by decide),ml]
 have f1:=EK cc k1 0 (by decide)
 have f2:=EL cc k1 0 (by decide)
 have f3:=EM cc k1 0 (by decide);rw[qJ];generalize hZ cc 0=w at f1 f2 f3;rw[ij rfl];refine V.here (x:=one _) (m:=0) (nt:=117) ?_ ((ω.put (a:=.z (.int .u64 w)) rfl (.z _)).fR (by simp) iZ) _ rfl;have fin:∀(v:Option (Nat×aM)) (env:Ω) (K:List Item),V Tryz.prog Q mn (one (bx x s (.par (n+1) (p+1) .add) v 1)) {Frame.enter Tryz.prog 140 #[ptr s 0,.int .i64 1] .normal with defers:=[Go.Conc.dcall 161 #[]]} (c::rest) 117 ⟨cU,[],bO,[],0⟩ (.code .ret::K) env []:=λv env K jH jI hO t3 fT ey=>by
  rintro y rfl;obtain rfl:jI=[]:=dp.1 ey.holds.len;exact cq.IU (U _ _ _) (U _ _ 0) (Nat.succ_pos _) rfl rfl rfl rfl Tryz.func140 rfl uD (Θ v jH hO ((ν.ext.trans kX).trans fT.ext) ey.holds)
 refine V.a' (U _ _ _) rfl ?_;refine W.part (A:=[]) Κ [7] [] rfl λη I=>?_;(try simp);(repeat (rw[δ];simp));(try simp[]);apply I;refine W.bJ ?_;by_cases J:cc=1
 ·(repeat (first|apply aZ|apply wb|apply a3|apply wd|refine al rfl ?_|refine aj rfl ?_|(refine ξ λη I=>?_;simp;(repeat (rw[δ];simp[f1,f2,f3,IS,J]));apply I)));refine W.cl ?_;refine W.part (A:=[]) Κ [0,1,2] [3,4] rfl λη I=>?_;(try simp);(repeat (rw[δ];simp));apply I;refine W.stop ?_;refine V.conv (U _ _ _).here (sp:=sp) ζ.spec (by rw[b3];exact id) ⟨rfl,rfl,by simp[Frame.enter],rfl⟩ rfl rfl rfl OG uE OH rfl (λς w Γ bH=>⟨_,bH.Ρ⟩) (λφ ς ο=>?_);unfold h8;rw[j5];refine V.X5 ζ.rel b3 (by simp) ⟨⟨rfl,rfl,by simp[Frame.enter],rfl⟩,Yx,⟨_,rfl⟩,rfl,rfl,rfl⟩ ?_;refine V.a' (U _ _ _) rfl ?_;refine W.bJ ?_;(repeat (first|apply aZ|apply wb|apply a3|apply wd|refine al rfl ?_|refine aj rfl ?_|(refine ξ λη I=>?_;simp;(repeat (rw[δ];simp[f1,f2,f3,IS,J]));apply I)));exact .stop (fin _ _ _)
 ·have xB:¬(cc:Int)=1:=λh=>J (by exact_mod_cast h);(repeat (first|apply aZ|apply wb|apply a3|apply wd|refine al rfl ?_|refine aj rfl ?_|(refine ξ λη I=>?_;simp;(repeat (rw[δ];simp[f1,f2,f3,IS,J,xB,pK]));apply I)));exact .stop (fin _ _ _)
end
noncomputable def A8:Code:=Tryz.f146.body.getD .skip
noncomputable def nv:Code:=dJ [1,0,0] A8
noncomputable def wA:List Item:=[.inLoop nv,.inBlock 0]
theorem O0:gz .u64 0 2147483648=0:=by decide
theorem O1:gz .u64 0 2147483647=0:=by decide
theorem EO:IntKind.u32.wrap 0=0:=by decide
theorem O2:IntKind.i32.wrap 0=0:=by decide
section
variable {Q:Value->Prop} {mn:Bool} {x:aU} {c:Frame} {rest:List Frame} {S:aC} {B:aP} {σ:List Row} {H:ψ} {s n p:Nat} {sp:Spec} {v:Option (Nat×aM)} {t:Tok}
abbrev uI (Q:Value->Prop) (mn:Bool) (x:aU) (c:Frame) (rest:List Frame) (S:aC) (H:ψ) (s:Nat) (t:Tok) (v:Option (Nat×aM)) (d:Nat) (K:List Item) (env:Ω):Prop:=
 V Tryz.prog Q mn (one (bx x s t v d)) (Frame.enter Tryz.prog 146 #[ptr s 0] .normal) (c::rest) 84 ⟨S,[],H,[],0⟩ K env []
def rA (Q:Value->Prop) (mn:Bool) (x:aU) (c:Frame) (rest:List Frame) (S:aC) (H:ψ) (s n:Nat) (sp:Spec):Prop:=
 ∀(ay:aC) (H':ψ) (ga fw:List Nat) (gJ eB:ψ),Ext S [] H ay [] H'->Holds ay [] [] H'->ga.Perm (List.range n)->ll sp.D ga gJ->(sp.aT≠none->fw.Perm (List.range n)/\sp.aI fw eB)->(sp.aT=none->eB=ψ.empty)->Apart H' gJ->Apart H' eB->Apart gJ eB->(∃w,Fits H' w/\Fits gJ w/\Fits eB w)->
  ∀(v:Option (Nat×aM)) (cU:aC) (bO:ψ),Ext e7 [] (join (join H' gJ) eB) cU [] bO->cq Tryz.prog Q mn (bx x s (.par n 0 .bF) v 0) (c.finish (.tuple #[])) rest bO
theorem rA.later {cU:aC} {bO:ψ} (h:rA Q mn x c rest S H s n sp) (he:Ext S [] H cU [] bO):rA Q mn x c rest cU bO s n sp:=
 λay H' ga fw gJ eB a1 ba cm fY hH l6 u' tn y9 F3 v jH hO y'=>h ay H' ga fw gJ eB (he.trans a1) ba cm fY hH l6 u' tn y9 F3 v jH hO y'
theorem O3 (ζ:lR x s sp) (Θ:∀(v:Option (Nat×aM)) (cU:aC) (bO:ψ),Ext e7 [] H cU [] bO->cq Tryz.prog Q mn (bx x s (.par n 0 .bF) v 0) (c.finish (.tuple #[])) rest bO) {K:List Item} {env:Ω}:uI Q mn x c rest e7 H s (.par n 0 .bF) v 0 (.code .ret::K) env:=by
 letI:bn:=eS;have U:=ζ.seq;refine V.Iy (U _ _ _) rfl rfl rfl rfl Tryz.func146 rfl λbB bG H1 ν Β=>?_;obtain rfl:bG=[]:=dp.1 Β.len;rintro y rfl;exact Θ v bB H1 ν.ext
theorem O4 (ζ:lR x s sp) (cX:rA Q mn x c rest S H s n sp):uI Q mn x c rest S H s (.par n 0 .lZ) v 1 (.code (dJ [0,1] nv)::.inBlock 1::wA) [(0,.z (ptr s 0)),(2,.z (.int .u64 0))]:=by
 letI:bn:=eS;have U:=ζ.seq;refine V.a' (U _ _ _) rfl ?_;unfold nv A8;(repeat (first|apply aZ|apply wb|apply a3|apply wd|refine al rfl ?_|refine aj rfl ?_|(refine ξ λη I=>?_;simp;(repeat (rw[δ];simp[O0,O1,EO,O2]));apply I)));refine W.cl (.stop ?_);refine V.enable (U _ _ _).here (Nat.succ_pos _) ⟨⟨rfl,rfl,by simp[Frame.enter],rfl⟩,uD,⟨_,rfl⟩,rfl,rfl,rfl⟩ ?_;rw[AT];refine V.a' (U _ _ _) rfl ?_;refine W.bJ ?_;refine W.cl ?_;refine W.part (A:=[]) Κ [0] [1,2] rfl λη I=>?_;(try simp);(repeat (rw[δ];simp));apply I;refine W.stop ?_;refine V.conv (U _ _ _).here (sp:=sp) ζ.spec (by rw[b3];exact id) ⟨rfl,rfl,by simp[Frame.enter],rfl⟩ rfl rfl rfl II uE IJ rfl (λς w Γ bH=>⟨_,bH.cP⟩) (λφ ς ο=>?_);unfold h8;rw[j5];refine V.Cv ζ.rel rfl (sp:=sp) ζ.spec b3 (.inl rfl) ⟨⟨rfl,rfl,by simp[Frame.enter],rfl⟩,EE,⟨_,rfl⟩,rfl,rfl,rfl⟩ λbB bG H1 t1 ga fw gJ eB ν ω bP dw fN mc ug IV IW IX=>?_;rw[gX];obtain rfl:bG=[]:=dp.1 ω.holds.len;have Θ:=cX bB H1 ga fw gJ eB ν.ext ω.holds bP dw fN mc ug IV IW IX;refine V.here (x:=one _) (S:=e7) (B:=[]) (σ:=[]) (m:=0) (nt:=84) ?_ (ω.none (by simp)) _ rfl;refine V.a' (U _ _ _) rfl ?_;refine W.bJ ?_;(repeat (first|apply aZ|apply wb|apply a3|apply wd|refine al rfl ?_|refine aj rfl ?_|(refine ξ λη I=>?_;simp;(repeat (rw[δ];simp[O0,O1,EO,O2]));apply I)));exact .stop (O3 ζ Θ)
theorem Y7 (ζ:lR x s sp) (cX:rA Q mn x c rest S H s n sp):uI Q mn x c rest S H s (.par n 0 .w4) v 1 (.code (dJ [0,1,1,1,1,1,0,1,1,1,1] nv)::.inBlock 1::wA) [(0,.z (ptr s 0))]:=by
 letI:bn:=eS;have U:=ζ.seq;refine V.a' (U _ _ _) rfl ?_;unfold nv A8
 repeat first|apply aZ|apply wb|apply a3|apply wd
 refine W.cl ?_;refine W.part (A:=[]) Κ [0,1,2] [3,4,5] rfl λη I=>?_;(try simp);(repeat (rw[δ];simp));apply I;refine W.stop ?_;refine V.call (U _ _ _) ⟨rfl,rfl,by simp[Frame.enter],rfl⟩ rfl rfl rfl ⟨_,Tryz.func168,rfl,rfl⟩ λbB bG H1 t1 oW ν ω hv=>?_;obtain rfl:=mH (l:=[ptr s 0]) hv;obtain rfl:bG=[]:=dp.1 ω.holds.len;rintro y rfl;refine IT ζ id ω.holds λφ ς ο=>.inl λcU bO kX iZ=>?_;have χ:=ο.jf.sT;rw[b3] at χ;obtain⟨Ρ,ag,aV⟩:=χ.fin n 0 (.inr (.inl rfl));have Υ:cN ς=0:=by simp only[cN,Ρ,aV];rfl
 rw[Υ,ij rfl];have yy:=cX.later (ν.ext.trans kX);refine V.here (x:=one _) (m:=0) (nt:=84) ?_ ((ω.put (a:=.z (.int .u64 0)) rfl (.z _)).fR (by simp) iZ) _ rfl;refine V.a' (U _ _ _) rfl ?_;refine W.part (A:=[]) Κ [4,5] [] rfl λη I=>?_;(try simp);(repeat (rw[δ];simp));(try simp[]);apply I;refine W.bJ ?_;(repeat (first|apply aZ|apply wb|apply a3|apply wd|refine al rfl ?_|refine aj rfl ?_|(refine ξ λη I=>?_;simp;(repeat (rw[δ];simp));apply I)));refine W.cl (.stop ?_);refine V.enable (U _ _ _).here (Nat.succ_pos _) ⟨⟨rfl,rfl,by simp[Frame.enter],rfl⟩,uD,⟨_,rfl⟩,rfl,rfl,rfl⟩ ?_;rw[AT];refine V.a' (U _ _ _) rfl ?_;refine W.bJ ?_;refine W.cl ?_;refine W.part (A:=[]) Κ [0] [1,2] rfl λη I=>?_;(try simp);(repeat (rw[δ];simp));apply I;refine W.stop ?_;refine V.conv (U _ _ _).here (sp:=sp) ζ.spec (by rw[b3];exact id) ⟨rfl,rfl,by simp[Frame.enter],rfl⟩ rfl rfl rfl II uE IJ rfl (λς w Γ bH=>⟨_,bH.cP⟩) (λφ ς ο=>?_);unfold h8;rw[j5];refine V.Cv ζ.rel rfl (sp:=sp) ζ.spec b3 (.inr rfl) ⟨⟨rfl,rfl,by simp[Frame.enter],rfl⟩,EE,⟨_,rfl⟩,rfl,rfl,rfl⟩ λbB bG H1 t1 ga fw gJ eB ν ω bP dw fN mc ug IV IW IX=>?_;rw[gX];obtain rfl:bG=[]:=dp.1 ω.holds.len;have Θ:=yy bB H1 ga fw gJ eB ν.ext ω.holds bP dw fN mc ug IV IW IX;refine V.here (x:=one _) (S:=e7) (B:=[]) (σ:=[]) (m:=0) (nt:=84) ?_ (ω.none (by simp)) _ rfl;refine V.a' (U _ _ _) rfl ?_;refine W.bJ ?_;(repeat (first|apply aZ|apply wb|apply a3|apply wd|refine al rfl ?_|refine aj rfl ?_|(refine ξ λη I=>?_;simp;(repeat (rw[δ];simp));apply I)));exact .stop (O3 ζ Θ)
theorem Y8 {a b d:Nat} (h:a<=b) (J:b<7):a<8/\a<7:=by omega
theorem Y9 {a b:Nat} (h:a<b):¬b=0:=by omega
theorem Y' (ζ:lR x s sp) (cX:rA Q mn x c rest S H s n sp) {φ:Nat} {ς:aM}:uI Q mn x c rest S H s (.par n 0 .w3) (some (φ,ς)) 1 (.code (dJ [0,1,1,1,1,1,0,1,1,1,0] nv)::.code (dJ [0,1,1,1,1,1,0,1,1,1,1] nv)::.inBlock 1::wA) [(0,.z (ptr s 0)),(5,.z (.bool false))]:=by
 letI:bn:=eS;have U:=ζ.seq;have woken:∀v,uI Q mn x c rest S H s (.par n 0 .w4) v 1 (.code (dJ [0,1,1,1,1,1,0,1,1,1,1] nv)::.inBlock 1::wA) [(0,.z (ptr s 0))]:=λv=>Y7 ζ cX;refine V.a' (U _ _ _) rfl ?_;unfold nv A8;refine W.cl ?_;refine W.part (A:=[]) Κ [0,1,2,3] [4] rfl λη I=>?_;(try simp);(repeat (rw[δ];simp));apply I;refine W.stop ?_;refine V.X9 (U _ _ _).here (sp:=sp) ζ.spec (by rw[b3];exact id) (vs:=[ptr s 1,.bool false]) rfl (λbq iS=>by rw[AU iS];exact ζ.still bq iS) ⟨⟨rfl,rfl,by simp[Frame.enter],rfl⟩,YE,⟨_,rfl⟩,rfl,rfl,rfl⟩ (λgZ ς ο h=>by rw[b3];exact h) (λgZ ς ο h=>?_);refine⟨{ς with cH:=ς.cH-1},.par n 0 .w4,rfl,rfl,⟨rfl,rfl,rfl⟩,by rw[b3];exact .wake h,λhQ et=>?_⟩;rw[gX];refine V.a' (U _ _ _) rfl ?_;refine W.bJ ?_;refine W.forget [(0,.z (ptr s 0))] (by simp) (.stop ?_);exact woken _
theorem Za (ζ:lR x s sp):∀(N φ:Nat) (ς:aM) (S:aC) (H:ψ),φ<N->ς.toSpec=sp->0<ς.cnt->ς.cnt<=ς.top->ς.wt=0->rA Q mn x c rest S H s n sp->
  uI Q mn x c rest S H s (.par n 0 .add) (some (φ,ς)) 1 (.code (dJ [0,1] nv)::.inBlock 1::wA) [(0,.z (ptr s 0)),(2,.z (.int .u64 (cN ς)))]:=by
 letI:bn:=eS;have U:=ζ.seq;intro N
 induction N with
 | zero=>intro φ ς S H h;exact absurd h (Nat.not_lt_zero _)
 | succ N A1=>
  intro φ ς S H ck Γ Co wB qH cX;have gE:=EN ζ Γ;obtain⟨k1,cy⟩:=Y8 (d:=0) wB gE;have f1:=EK ς.cnt k1 0 (by decide);have f2:=EL ς.cnt k1 0 (by decide);have f3:=EM ς.cnt k1 0 (by decide);have f4:=Y3 ς.cnt k1;have zm:cN ς=hZ ς.cnt 0:=by rw[uH,qH]
  have bw:¬ς.cnt=0:=Y9 Co
  have Ei:¬(ς.cnt:Int)=0:=λh=>bw (by exact_mod_cast h);rw[<-zm] at f1 f2 f3 f4;have sleep:∀(S H) (φ:Nat) (ς:aM),rA Q mn x c rest S H s n sp->uI Q mn x c rest S H s (.par n 0 .w3) (some (φ,ς)) 1 (.code (dJ [0,1,1,1,1,1,0,1,1,1,0] nv)::.code (dJ [0,1,1,1,1,1,0,1,1,1,1] nv)::.inBlock 1::wA) [(0,.z (ptr s 0)),(5,.z (.bool false))]:=λS H φ ς cX=>Y' ζ cX;have lZ:∀(S H v),rA Q mn x c rest S H s n sp->uI Q mn x c rest S H s (.par n 0 .lZ) v 1 (.code (dJ [0,1] nv)::.inBlock 1::wA) [(0,.z (ptr s 0)),(2,.z (.int .u64 0))]:=λS H v cX=>O4 ζ cX;refine V.a' (U _ _ _) rfl ?_;unfold nv A8;(repeat (first|apply aZ|apply wb|apply a3|apply wd|refine al rfl ?_|refine aj rfl ?_|(refine ξ λη I=>?_;simp;(repeat (rw[δ];simp[f2,f3,bw,Ei]));apply I)));refine W.cl ?_;refine W.part (A:=[]) Κ [0,1,2,3,4,5] [6] rfl λη I=>?_;(try simp);(repeat (rw[δ];simp[f4]));(try simp[f4]);apply I;refine W.stop ?_;refine V.call (U _ _ _) ⟨rfl,rfl,by simp[Frame.enter],rfl⟩ rfl rfl rfl ⟨_,Tryz.func179,rfl,rfl⟩ λbB bG H1 t1 oW ν ω hv=>?_;obtain rfl:=mH (l:=[ptr s 0,.int .u64 (cN ς),.int .u64 (hZ ς.cnt 1)]) hv;obtain rfl:bG=[]:=dp.1 ω.holds.len;rintro y rfl;refine Y5 ζ id ω.holds (λgZ fK ο hv cU bO kX iZ=>?_) (λgZ fK ο hv=>?_)
  ·have pN:=ο.view φ ς o3
   have aB:gZ<N:=by
    rcases Nat.lt_or_ge gZ φ with h|h
    ·exact Nat.lt_of_lt_of_le h (Nat.le_of_lt_succ ck)
    ·exact absurd (by rw[pN.2 (Nat.le_antisymm pN.1 h)]) hv
   have yy:=cX.later (ν.ext.trans kX);rw[ij rfl];refine V.here (x:=one _) (m:=0) (nt:=84) ?_ ((ω.put (a:=.z (.bool false)) rfl (.z _)).fR (by simp) iZ) _ rfl;refine V.a' (U _ _ _) rfl ?_;refine W.bJ ?_;refine aj rfl ?_
   repeat first|apply aZ|apply wb|apply a3|apply wd
   refine W.inLoop ?_;refine W.forget [(0,.z (ptr s 0))] (by simp) ?_
   repeat first|apply aZ|apply wb|apply a3|apply wd
   refine W.cl ?_;refine W.part (A:=[]) Κ [0,1,2] [3,4] rfl λη I=>?_;(try simp);(repeat (rw[δ];simp));apply I;refine W.stop ?_;refine V.call (U _ _ _) ⟨rfl,rfl,by simp[Frame.enter],rfl⟩ rfl rfl rfl ⟨_,Tryz.func168,rfl,rfl⟩ λjH jI hO t3 IY fT ey sE=>?_;obtain rfl:=mH (l:=[ptr s 0]) sE;obtain rfl:jI=[]:=dp.1 ey.holds.len;rintro y rfl;refine IT ζ id ey.holds λhQ fD dU=>?_;have eO:=dU.jf.sT;rw[b3] at eO;obtain⟨dZ,dM,h0,qY,qZ⟩:=eO.add n 0 rfl;have v7:=dU.view gZ fK o3;by_cases ah:fD.cnt=0
   ·refine .inr ⟨.par n 0 .lZ,.thru ah,λyt Zb jF jG ob kC=>?_⟩;have Υ:cN fD=0:=by simp only[cN,dZ,ah];rfl
    rw[Υ,ij rfl];have wC:=yy.later (fT.ext.trans ob);refine V.here (x:=one _) (m:=0) (nt:=84) ?_ ((ey.put (a:=.z (.int .u64 0)) rfl (.z _)).fR (by simp) kC) _ rfl;refine V.a' (U _ _ _) rfl ?_;refine W.part (A:=[]) Κ [4] [] rfl λη I=>?_;(try simp);(repeat (rw[δ];simp));(try simp[]);apply I;refine W.bJ ?_;refine W.forget [(0,.z (ptr s 0)),(2,.z (.int .u64 0))] (by simp) (.stop ?_);exact lZ _ _ _ wC
   ·refine .inl λjF jG ob kC=>?_;rw[ij rfl];have wC:=yy.later (fT.ext.trans ob);refine V.here (x:=one _) (m:=0) (nt:=84) ?_ ((ey.put (a:=.z (.int .u64 (cN fD))) rfl (.z _)).fR (by simp) kC) _ rfl;refine V.a' (U _ _ _) rfl ?_;refine W.part (A:=[]) Κ [4] [] rfl λη I=>?_;(try simp);(repeat (rw[δ];simp));(try simp[]);apply I;refine W.bJ ?_;refine W.forget [(0,.z (ptr s 0)),(2,.z (.int .u64 (cN fD)))] (by simp) (.stop ?_);exact A1 hQ fD jF jG (Nat.lt_of_le_of_lt v7.1 aB) dU.spec (Nat.pos_of_ne_zero ah) eO.cnt dZ wC
  ·have ih:=ο.jf.sT;rw[b3] at ih;obtain⟨dZ,dM,h0,qY,qZ⟩:=ih.add n 0 rfl;have hr:fK.cnt=ς.cnt:=by rw[zm,uH,dZ] at hv;simp only[hZ] at hv;omega
   refine⟨{fK with wt:=1},.par n 0 .w3,?_,rfl,⟨rfl,rfl,rfl⟩,.KY (by rw[hr];exact Co),λhQ iΥ cU bO kX iZ=>?_⟩
   ·rw[uH];simp only[hr]
   rw[ij rfl];have yy:=cX.later (ν.ext.trans kX);refine V.here (x:=one _) (m:=0) (nt:=84) ?_ ((ω.put (a:=.z (.bool true)) rfl (.z _)).fR (by simp) iZ) _ rfl;refine V.a' (U _ _ _) rfl ?_;refine W.bJ ?_;refine al rfl ?_;(repeat (first|apply aZ|apply wb|apply a3|apply wd|refine al rfl ?_|refine aj rfl ?_|(refine ξ λη I=>?_;simp;(repeat (rw[δ];simp));apply I)));refine W.cl ?_;refine W.part (A:=[]) Κ [0,1,2] [3,4] rfl λη I=>?_;(try simp);(repeat (rw[δ];simp));apply I;refine W.stop ?_;refine V.conv (U _ _ _).here (sp:=sp) ζ.spec (by rw[b3];exact id) ⟨rfl,rfl,by simp[Frame.enter],rfl⟩ rfl rfl rfl OG uE OH rfl (λς w Γ bH=>⟨_,bH.Ρ⟩) (λφ ς ο=>?_);unfold h8;rw[j5];refine V.X6 ζ.rel b3 (by simp) ⟨⟨rfl,rfl,by simp[Frame.enter],rfl⟩,Yy,⟨_,rfl⟩,rfl,rfl,rfl⟩ ?_;refine V.a' (U _ _ _) rfl ?_;refine W.bJ ?_;(repeat (first|apply aZ|apply wb|apply a3|apply wd|refine al rfl ?_|refine aj rfl ?_|(refine ξ λη I=>?_;simp;(repeat (rw[δ];simp[f1]));apply I)));refine W.forget [(0,.z (ptr s 0)),(5,.z (.bool false))] (by simp) (.stop ?_);exact sleep _ _ _ _ yy
theorem Zc (ζ:lR x s sp) (Β:Holds S B σ H) (cX:rA Q mn x c rest S H s n sp) :
  cq Tryz.prog Q mn (bx x s (.par n 0 .add) v 0) (Frame.enter Tryz.prog 146 #[ptr s 0] .normal) (c::rest) H:=by
 letI:bn:=eS;have U:=ζ.seq;refine V.p' (z:=one _) (vs:=[ptr s 0]) Tryz.func146 rfl Β (by simp[Tryz.ntmps146]) ?_ _ rfl;refine V.a' (U _ _ _) rfl ?_;(repeat (first|apply aZ|apply wb|apply a3|apply wd|refine al rfl ?_|refine aj rfl ?_|(refine ξ λη I=>?_;simp;(repeat (rw[δ];simp));apply I)));refine W.cl (.stop ?_);refine V.disable (U _ _ _).here ⟨⟨rfl,rfl,by simp[Frame.enter],rfl⟩,AW,⟨_,rfl⟩,rfl,rfl,rfl⟩ ?_;rw[AS];refine V.a' (U _ _ _) rfl ?_;refine W.bJ ?_
 repeat first|apply aZ|apply wb|apply a3|apply wd
 refine W.loop ?_
 repeat first|apply aZ|apply wb|apply a3|apply wd
 refine W.cl ?_;refine W.part (A:=[]) Κ [0,1,2] [3,4] rfl λη I=>?_;(try simp);(repeat (rw[δ];simp));apply I;refine W.stop ?_;refine V.call (U _ _ _) ⟨rfl,rfl,by simp[Frame.enter],rfl⟩ rfl rfl rfl ⟨_,Tryz.func168,rfl,rfl⟩ λjH jI hO t3 IY fT ey sE=>?_;obtain rfl:=mH (l:=[ptr s 0]) sE;obtain rfl:jI=[]:=dp.1 ey.holds.len;rintro y rfl;refine IT ζ id ey.holds λhQ fD dU=>?_;have eO:=dU.jf.sT;rw[b3] at eO;obtain⟨dZ,dM,h0,qY,qZ⟩:=eO.add n 0 rfl;by_cases ah:fD.cnt=0
 ·refine .inr ⟨.par n 0 .lZ,.thru ah,λyt Zb jF jG ob kC=>?_⟩;have Υ:cN fD=0:=by simp only[cN,dZ,ah];rfl
  rw[Υ,ij rfl];have wC:=cX.later (fT.ext.trans ob);refine V.here (x:=one _) (m:=0) (nt:=84) ?_ ((ey.put (a:=.z (.int .u64 0)) rfl (.z _)).fR (by simp) kC) _ rfl;refine V.a' (U _ _ _) rfl ?_;refine W.part (A:=[]) Κ [4] [] rfl λη I=>?_;(try simp);(repeat (rw[δ];simp));(try simp[]);apply I;refine W.bJ ?_;refine W.forget [(0,.z (ptr s 0)),(2,.z (.int .u64 0))] (by simp) (.stop ?_);exact O4 ζ wC
 ·refine .inl λjF jG ob kC=>?_;rw[ij rfl];have wC:=cX.later (fT.ext.trans ob);refine V.here (x:=one _) (m:=0) (nt:=84) ?_ ((ey.put (a:=.z (.int .u64 (cN fD))) rfl (.z _)).fR (by simp) kC) _ rfl;refine V.a' (U _ _ _) rfl ?_;refine W.part (A:=[]) Κ [4] [] rfl λη I=>?_;(try simp);(repeat (rw[δ];simp));(try simp[]);apply I;refine W.bJ ?_;refine W.forget [(0,.z (ptr s 0)),(2,.z (.int .u64 (cN fD)))] (by simp) (.stop ?_);exact Za ζ (hQ+1) hQ fD jF jG (Nat.lt_succ_self _) dU.spec (Nat.pos_of_ne_zero ah) eO.cnt dZ wC
end
end Go.TL
namespace Go.TL
open Go.Conc Go.Proofs
open Go.ConcN (sumTo upd sumTo_upd upd_ne upd_same sumTo_congr le_sumTo)
variable [bn]
def cB.yz:cB->θ->Prop
 | .ok a,b=>a=b
 | .b5 p r,b=>p/\r.yz b
 | .bad,_=>False
def iR (P:Program) {α:Type} (s:Sem α) (a:α):Prop:=∀w,s.run P w=.ok a w/\∀es,s.events P w es=es
section
variable {P:Program} {T:bd} {α β:Type}
theorem iR.pure (a:α):iR P (Pure.pure a) a:=λw=>⟨by simp,λes=>by simp⟩
theorem iR.bind {s:Sem α} {f:α->Sem β} {a:α} {b:β} (h:iR P s a) (k:iR P (f a) b):iR P (s >>= f) b:=λw=>⟨by simp[(h w).1,(k w).1,Result.andThen],λes=>by simp[(h w).1,(h w).2,(k w).2,Result.evThen]⟩
theorem iR.program:iR P Go.program P:=λw=>⟨by simp,λes=>by simp⟩
theorem iR.underlying {t:TypeId} {d:TypeDesc} (h:P.underlying t=some d):iR P (Go.underlying t) d:=λw=>⟨run_underlying h w,λes=>by simp⟩
theorem iR.sizeOf {t:TypeId} {i:TypeInfo} (hi:P.info? t=some i):iR P (Go.sizeOf t) i.size:=by
 unfold Go.sizeOf Go.typeInfo;refine iR.bind (iR.bind .program ?_) (iR.pure _);show iR P (match P.info? t with|some i=>Pure.pure i|none=>_) i;rw[hi];exact .pure _
theorem Zd {op:BinOp} {ty:TypeId} {p q:Operand} {x y v:Value} (h:(sg op x y).yz (.z v)):iR P (do eqGuard op ty p q x y;binOp op ty x y) v:=by
 unfold sg at h;split at h
 case h_25=>exact h.elim
 case h_1=>
  obtain⟨J,γ⟩:=h;cases γ;have cW:¬(_:Int)<0:=Int.not_lt.2 J;simp only[eqGuard,binOp,Op.shift,cW,if_false];exact .pure _
 case h_2=>
  obtain⟨J,γ⟩:=h;cases γ;have cW:¬(_:Int)<0:=Int.not_lt.2 J;simp only[eqGuard,binOp,Op.shift,cW,if_false];exact .pure _
 case h_6=>
  split at h
  ·rename_i e;subst e;obtain⟨J,γ⟩:=h;cases γ;simp only[eqGuard,binOp,Op.intDiv,J,if_false,ne_eq,not_true_eq_false];exact .pure _
  ·exact h.elim
 case h_7=>
  split at h
  ·rename_i e;subst e;obtain⟨J,γ⟩:=h;cases γ;simp only[eqGuard,binOp,Op.intDiv,J,if_false,ne_eq,not_true_eq_false];exact .pure _
  ·exact h.elim
 case h_18=>
  obtain⟨J,γ⟩:=h;cases γ;have cW:¬((_:Int) > IntKind.i64.max):=Int.not_lt.2 J;simp only[eqGuard,binOp,Op.stringOp,cW,if_false];exact .pure _
 all_goals first
  |(cases h;exact .pure _)
  |(split at h
    ·rename_i e;subst e;cases h;simp only[eqGuard,binOp,Op.intArith,Op.intBits,Op.intCmp,ne_eq,not_true_eq_false,if_false];exact .pure _
    ·exact h.elim)
def yA (T:bd) (env:Ω) (o:Oper):cB:=match o.op with
 | .move x=>.ok (aO env x)
 | .assign x=>.ok (aO env x)
 | .pick c a b=>xZ (aO env c) (aO env a) (aO env b)
 | .binOp op _ x y _=>match aO env x,aO env y with
  | .z a,.z b=>sg op a b
  | _,_=>.bad
 | .unOp op _ x=>xJ op (aO env x)
 | .convert s d x=>xR T s d (aO env x)
 | .nilCheck x=>match aO env x with
  | .z (.pointer (some a))=>.ok (.z (.pointer (some a)))
  | _=>.bad
 | .fieldAddr ty x f=>match aO env x with
  | .z (.pointer (some ⟨b,o',none⟩))=>match gh T ty f with|some (o,_)=>.ok (.z (.pointer (some ⟨b,o'+o,none⟩)))|none=>.bad
  | _=>.bad
 | _=>.bad
theorem Ze (Θ:bT P T) {env:Ω} {o:Oper} {v:Value} (h:(yA T env o).yz (.z v)) {ρ:Operand->Value} (nx:∀y u,aO env y=.z u->ρ y=u):iR P (execOp ρ o) (.value v):=by
 have val:∀{s:Sem Value} {u:Value},iR P s u->iR P (do Pure.pure (Next.value (<-s))) (.value u):=λο=>.bind ο (.pure _);unfold yA at h;unfold execOp;split at h<;>rename_i Γ<;>first|(rw[Γ];simp only)|exact h.elim
 ·rw[nx _ _ h];exact .pure _
 ·rw[nx _ _ h];exact .pure _
 ·rename_i c a b;unfold xZ at h;split at h
  ·rename_i bv ζ;rw[nx _ _ ζ];refine iR.bind (a:=bv) (iR.pure _) ?_;split at h
   ·rename_i y z Ο Η;cases h;rw[nx _ _ Ο,nx _ _ Η];cases bv<;>exact .pure _
   ·cases bv with
    | true=>rw[nx a v h];exact .pure _
    | false=>rw[nx b v h];exact .pure _
  ·exact h.elim
 ·split at h
  ·rename_i x y U Ο;rw[nx _ _ U,nx _ _ Ο];exact val (Zd h)
  ·exact h.elim
 ·unfold xJ at h;split at h
  ·rename_i bv hb;rw[nx _ _ hb];split at h
   ·cases h;exact val (.pure _)
   ·exact h.elim
  ·rename_i k n hb;rw[nx _ _ hb];split at h
   ·cases h;exact val (.pure _)
   ·exact h.elim
  ·exact h.elim
 ·unfold xR at h;split at h
  ·rename_i i j hi ε;split at h
   ·rename_i k kk n hu U;cases h;rw[nx _ _ U];refine val ?_;unfold convert;refine .bind (.underlying (Θ _ _ hi).1.1) (.bind (.underlying (Θ _ _ ε).1.1) ?_);rw[hu];exact .pure _
   ·exact h.elim
  ·exact h.elim
 ·split at h
  ·rename_i a U;cases h;rw[nx _ _ U];exact .pure _
  ·exact h.elim
 ·split at h
  ·rename_i b o' U;rw[nx _ _ U];split at h
   ·rename_i dH zP Τ;cases h;refine val ?_;unfold gh at Τ;split at Τ<;>try cases Τ
    rename_i i hi;split at Τ<;>try cases Τ
    rename_i c9 hu;split at Τ<;>try cases Τ
    rename_i x U;split at Τ<;>try cases Τ
    rename_i cg oI;split at Τ<;>try cases Τ
    rename_i kj;unfold Instr.fieldAt;refine .bind (.underlying (Θ _ _ hi).1.1) ?_;rw[hu];simp only[U];refine .bind (a:=⟨b,o',none⟩) (.pure _) ?_;obtain⟨f,kU,oM,_⟩:=(Θ _ _ oI).2;refine .bind (a:=⟨b,o'+x.offset,none⟩) ?_ (.pure _);unfold fieldPlace;refine .bind (.sizeOf kU) ?_;rw[oM,if_neg kj,tL];exact .pure _
   ·exact h.elim
  ·exact h.elim
end
theorem Zf (vs:List Value) {nt:Nat} (Ι:vs.length<=nt):cY e7 [] [] (entry 0 (vs.map θ.z)) (vs.toArray++Array.replicate (nt-vs.length) undef):=by
 have μ:fg e7 [] [] (vs.map θ.z) vs.toArray:=⟨by simp,λi a v J γ=>by
  simp only[List.getElem?_map,List.getElem?_toArray] at J γ;rw[γ] at J;cases J;exact .z v⟩
 have:=(ff.enter (yw ψ.empty) (m:=0) (nt:=nt) μ (Nat.le_refl _) (by simpa using Ι)).b6;simpa using this
def IZ (P:Program) (mn:Bool) (dt:Goroutine->Prop):Prop:=∀g g',iD g->(∀w,stepG P mn g w=.go g' w #[])->dt g'->dt g
def aa (dt:Goroutine->Prop) (b:Frame) (cs:List Frame) (nt:Nat) (k:List Item) (env:Ω):Prop:=∀t:Array Value,t.size=nt->cY e7 [] [] env t->dt (Go.Conc.G (au b t k) cs)
def mL (T:bd) (nt:Nat) (ops:Array Oper):List Nat->Ω->(Ω->Prop)->Prop
 | [],env,K=>K env
 | i::is,env,K=>gT ops[i]? λo=>h2 nt o=true/\gT (fA env ops o) λw=>
   jE w (mL T nt ops is (ca o env .cz) K) (∃v,(yA T env o).yz (.z v)/\mL T nt ops is (ca o env (.z v)) K)
theorem wD {T:bd} {nt:Nat} {ops:Array Oper} {env:Ω} {K:Ω->Prop}:mL T nt ops [] env K=K env:=Eq.trans rfl rfl
def wE (T:bd) (nt:Nat) (ops:Array Oper) (is:List Nat) (o:Oper) (env:Ω) (K:Ω->Prop):cB->Prop
 | .ok (.z v)=>mL T nt ops is (ca o env (.z v)) K
 | .b5 p (.ok (.z v))=>p/\mL T nt ops is (ca o env (.z v)) K
 | _=>False
theorem Zg {T:bd} {nt:Nat} {ops:Array Oper} {is:List Nat} {o:Oper} {env:Ω} {K:Ω->Prop} {v:Value}:wE T nt ops is o env K (.ok (.z v))=mL T nt ops is (ca o env (.z v)) K:=Eq.trans rfl rfl
theorem Zh {T:bd} {nt:Nat} {ops:Array Oper} {is:List Nat} {o:Oper} {env:Ω} {K:Ω->Prop} {v:Value} {p:Prop}:wE T nt ops is o env K (.b5 p (.ok (.z v)))=(p/\mL T nt ops is (ca o env (.z v)) K):=Eq.trans rfl rfl
theorem Zi {T:bd} {nt:Nat} {ops:Array Oper} {is:List Nat} {o:Oper} {env:Ω} {K:Ω->Prop} {r r':cB} (h:r=r'):wE T nt ops is o env K r=wE T nt ops is o env K r':=by rw[h]
theorem Zj {T:bd} {nt:Nat} {ops:Array Oper} {is:List Nat} {o:Oper} {env:Ω} {K:Ω->Prop} {r:cB} (h:wE T nt ops is o env K r):∃v,r.yz (.z v)/\mL T nt ops is (ca o env (.z v)) K:=by
 unfold wE at h;split at h
 ·exact⟨_,rfl,h⟩
 ·exact⟨_,⟨h.1,rfl⟩,h.2⟩
 ·exact h.elim
theorem g0 {T:bd} {nt:Nat} {ops:Array Oper} {i:Nat} {is:List Nat} {env:Ω} {K:Ω->Prop} (h:gT ops[i]? λo=>h2 nt o=true/\gT (fA env ops o) λw=>jE w (mL T nt ops is (ca o env .cz) K) (wE T nt ops is o env K (yA T env o))):mL T nt ops (i::is) env K:=by
 unfold mL;unfold gT at h ⊢;split at h
 ·exact h.elim
 rename_i o Γ;refine⟨h.1,?_⟩
 replace h:=h.2
 split at h
 ·exact h.elim
 rename_i w hw;exact⟨h.1,λe=>Zj (h.2 e)⟩
section
variable {P:Program} {T:bd} {mn:Bool} {dt:Goroutine->Prop} {b:Frame} {cs:List Frame} {nt:Nat} {k:List Item} {env:Ω} {ops:Array Oper} {i:Nat} {rest:List Nat} {op:Oper}
variable (gr:IZ P mn dt) (hb:b.mode=.run)
include gr hb
theorem aa.to {ab:List Item} (ο:∀t w,stepG.exec P mn true (au b t k) cs none w=.go (Go.Conc.G (au b t ab) cs) w #[]) (h:aa dt b cs nt ab env):aa dt b cs nt k env:=
 λt J γ=>gr _ _ ⟨rfl,rfl⟩ (λw=>(i' hb w).trans (ο t w)) (h t J γ)
theorem aa.skip (h:aa dt b cs nt k env):aa dt b cs nt (.code .skip::k) env:=.to gr hb (λ_ _=>rfl) h
theorem aa.inBlock {l:Nat} (h:aa dt b cs nt k env):aa dt b cs nt (.inBlock l::k) env:=.to gr hb (λ_ _=>rfl) h
theorem aa.seq {a c:Code} (h:aa dt b cs nt (.code a::.code c::k) env):aa dt b cs nt (.code (.seq a c)::k) env:=.to gr hb (λ_ _=>rfl) h
theorem aa.block {l:Nat} {c:Code} (h:aa dt b cs nt (.code c::.inBlock l::k) env):aa dt b cs nt (.code (.block l c)::k) env:=.to gr hb (λ_ _=>rfl) h
theorem aa.loop {c:Code} (h:aa dt b cs nt (.code c::.inLoop c::k) env):aa dt b cs nt (.code (.loop c)::k) env:=.to gr hb (λ_ _=>rfl) h
theorem aa.inLoop {c:Code} (h:aa dt b cs nt (.code c::.inLoop c::k) env):aa dt b cs nt (.inLoop c::k) env:=.to gr hb (λ_ _=>rfl) h
theorem aa.cl {id:Nat} {ops:Array Oper} (h:aa dt b cs nt (.inRegion ops (idx ops.size [])::k) env):aa dt b cs nt (.code (.region id ops false)::k) env:=.to gr hb (λ_ _=>by rw[idx_eq];rfl) h
theorem aa.bJ {ops:Array Oper} (h:aa dt b cs nt k env):aa dt b cs nt (.inRegion ops []::k) env:=.to gr hb (λ_ _=>rfl) h
theorem aa.exit {l:Nat} {ab:List Item} (he:exitTo l k=some ab) (h:aa dt b cs nt ab env):aa dt b cs nt (.code (.exit l)::k) env:=by
 refine .to gr hb (λt w=>?_) h;unfold stepG.exec;simp only[au,he,Option.elim];rfl
theorem aa.cond {c:Operand} {a e:Code} {v:Bool} (ζ:aO env c=.z (.bool v)) (h:aa dt b cs nt (.code (if v then a else e)::k) env):aa dt b cs nt (.code (.cond c a e)::k) env:=by
 intro t J γ;refine gr _ _ ⟨rfl,rfl⟩ (λw=>?_) (h t J γ);rw[i' hb w];have a4:(au b t (.code (.cond c a e)::k)).eval c=.bool v:=by rw[zE];exact Et γ ζ
 unfold stepG.exec;simp only[au] at a4 ⊢;rw[a4];rfl
theorem aa.mM {c:Operand} {a e:Code} (ζ:aO env c=.z (.bool true)) (h:aa dt b cs nt (.code a::k) env):aa dt b cs nt (.code (.cond c a e)::k) env:=.cond gr hb ζ h
theorem aa.mN {c:Operand} {a e:Code} (ζ:aO env c=.z (.bool false)) (h:aa dt b cs nt (.code e::k) env):aa dt b cs nt (.code (.cond c a e)::k) env:=.cond gr hb ζ h
theorem I0 {t:Array Value} (h:cY e7 [] [] env t) (hd:h2 nt op=true) (Ξ:t.size=nt) {a:θ} {v:Value} (ν:ar e7 [] [] a v):(put op t v).size=nt/\cY e7 [] [] (ca op env a) (put op t v):=⟨(q3 h hd Ξ ν).2,(q3 h hd Ξ ν).1⟩
theorem aa.unwanted (Γ:ops[i]?=some op) (hw:fA env ops op=some false) (hd:h2 nt op=true) (h:aa dt b cs nt (.inRegion ops rest::k) (ca op env .cz)):aa dt b cs nt (.inRegion ops (i::rest)::k) env:=by
 intro t J γ;obtain⟨s1,s2⟩:=I0 (b:=b) gr hb γ hd J (a:=.cz) (v:=undef) (.cz _);refine gr _ _ ⟨rfl,rfl⟩ (λw=>?_) (h _ s1 s2);rw[i' hb,<-ij Γ];have vh:((ops[i]?).map (Region.wanted · (yielded ops t))).getD false=false:=by simp[Γ,jX γ hw]
 unfold stepG.exec;simp only[au,vh];rfl
theorem aa.opn (Θ:bT P T) (cf:b.roundOf=none) (χ:b.kind≠.early) (Γ:ops[i]?=some op) (hw:fA env ops op=some true) (hd:h2 nt op=true) {v:Value} (hv:(yA T env op).yz (.z v)) (h:aa dt b cs nt (.inRegion ops rest::k) (ca op env (.z v))):aa dt b cs nt (.inRegion ops (i::rest)::k) env:=by
 intro t J γ;obtain⟨s1,s2⟩:=I0 (b:=b) gr hb γ hd J (a:=.z v) (v:=v) (.z v);refine gr _ _ ⟨rfl,rfl⟩ (λw=>?_) (h _ s1 s2);have ο:=Ze Θ hv (ρ:=br t) λy u Ο=>Et γ Ο;rw[gD hb cf,gD hb cf,<-uA,stepG_value (a:=⟨t,b.defers⟩) Γ (jX γ hw) χ (by rw[lP];exact(ο w).1)];unfold listed;rw[lP,(ο w).2,seen_none]
theorem aa.part (Θ:bT P T) (cf:b.roundOf=none) (χ:b.kind≠.early) (is nY:List Nat) {l:List Nat} (Α:l=is++nY) (h:∀η:Ω->Prop,(∀env,aa dt b cs nt (.inRegion ops nY::k) env->η env)->mL T nt ops is env η):aa dt b cs nt (.inRegion ops l::k) env:=by
 subst Α;have key:∀(is:List Nat) (env:Ω),mL T nt ops is env (λenv=>aa dt b cs nt (.inRegion ops nY::k) env)->aa dt b cs nt (.inRegion ops (is++nY)::k) env:=by
  intro is
  induction is with
  | nil=>intro env h;exact h
  | cons i is Δ=>
   intro env h;unfold mL gT at h;split at h
   ·exact h.elim
   rename_i o Γ;obtain⟨hd,h⟩:=h;split at h
   ·exact h.elim
   rename_i w hw;cases w with
   | false=>exact .unwanted gr hb Γ hw hd (Δ _ (h.1 rfl))
   | true=>
    obtain⟨v,J,γ⟩:=h.2 rfl;exact .opn gr hb Θ cf χ Γ hw hd J (Δ _ γ)
 exact key is env (h _ λ_ h=>h)
theorem aa.region (Θ:bT P T) (cf:b.roundOf=none) (χ:b.kind≠.early) {id:Nat} (h:∀η:Ω->Prop,(∀env,aa dt b cs nt k env->η env)->mL T nt ops (idx ops.size []) env η):aa dt b cs nt (.code (.region id ops false)::k) env:=by
 refine .cl gr hb (.part gr hb Θ cf χ (idx ops.size []) [] (by simp) λη I=>h η λenv Χ=>I env (.bJ gr hb Χ))
theorem aa.EB (bU:mG b ops i op) (hw:fA env ops op=some true) (hd:h2 nt op=true) {f:FuncId} {args:Array Operand} {dW:Array TypeId} (Ν:op.op=.call ⟨.value (.func f),args,dW⟩) {v:Value} (he:Entry P f (λ_=>pure v)) (h:aa dt b cs nt (.inRegion ops rest::k) (ca op env (.z v))):aa dt b cs nt (.inRegion ops (i::rest)::k) env:=by
 intro t J γ;obtain⟨s1,s2⟩:=I0 (b:=b) gr hb γ hd J (a:=.z v) (v:=v) (.z v);exact gr _ _ ⟨rfl,rfl⟩ (λw=>Es he bU (jX γ hw) Ν (vs:=args.map (br t)) rfl (by simp) (by simp) (by simp)) (h _ s1 s2)
theorem aa.Iz (bU:mG b ops i op) (hw:fA env ops op=some true) (q4:op.dst=none) {f:FuncId} {dW:Array TypeId} (Ν:op.op=.defer ⟨.value (.func f),#[],dW⟩)
  (h:aa dt {b with defers:=Go.Conc.dcall f #[]::b.defers} cs nt (.inRegion ops rest::k) env):aa dt b cs nt (.inRegion ops (i::rest)::k) env:=by
 intro t J γ;refine gr _ (Go.Conc.G (au {b with defers:=Go.Conc.dcall f #[]::b.defers} t (.inRegion ops rest::k)) cs) ⟨rfl,rfl⟩ (λw=>?_) (h t J γ);rw[gD bU.run bU.ro,stepG_defer (a:=⟨t,b.defers⟩) bU.op (jX γ hw) bU.kd Ν];have:(⟨t,Go.Conc.dcall f #[]::b.defers⟩:_root_.Go.Act).put op.dst undef=⟨t,Go.Conc.dcall f #[]::b.defers⟩:=by rw[q4];rfl
 simp only[Array.map_empty,List.map_toArray,List.map_nil];rw[this,gD (b:={b with defers:=Go.Conc.dcall f #[]::b.defers}) bU.run bU.ro];rfl
theorem aa.call (bU:mG b ops i op) (hw:fA env ops op=some true) {args:Array Operand} {dW:Array TypeId} {g:FuncId} (Ν:op.op=.call ⟨.value (.func g),args,dW⟩) {vs:List Value} (kW:AP env args vs) {fn:Func} {body:Code} (bY:P.funcs[g]?=some fn) (vG:(fn.name == "runtime.NumGoroutine")=false) (nf:fn.body=some body) (Ι:vs.length<=fn.ntmps)
  (h:∀t:Array Value,t.size=nt->cY e7 [] [] env t->aa dt (Frame.enter P g vs.toArray .normal) (au b t (.inRegion ops (i::rest)::k)::cs) fn.ntmps [.code body] (entry 0 (vs.map θ.z))):aa dt b cs nt (.inRegion ops (i::rest)::k) env:=by
 intro t J γ;have aS:=h t J γ (vs.toArray++Array.replicate (fn.ntmps-vs.length) undef) (by simp;omega) (Zf vs Ι);rw[show vs.toArray++Array.replicate (fn.ntmps-vs.length) undef=vs.toArray++Array.replicate (fn.ntmps-vs.toArray.size) undef by simp,<-n4 bY nf] at aS;refine gr _ _ ⟨rfl,rfl⟩ (λw=>?_) aS;have kL:(fn.name == "runtime.NumGoroutine")=false:=vG;have DK:fn.body.isNone=false:=by rw[nf];rfl
 have μ:(execOp (br t) op).run P w=.ok (.enter g vs.toArray) w/\(execOp (br t) op).events P w #[]=#[]:=by
  have e:execOp (br t) op=callFunc g vs.toArray:=by
   unfold execOp;rw[Ν];have:args.map (br t)=vs.toArray:=kW.br γ;simp only[resolve];rw[this];simp[Deferred.ofValue,Go.TL.br,invoke]
  rw[e];unfold callFunc;have J:¬fn.name = "runtime.NumGoroutine" := by simpa using kL
  simp[bY,J,nf]
 rw[gD bU.run bU.ro,stepG_enter (a:=⟨t,b.defers⟩) bU.op (jX γ hw) bU.kd (by rw[lP];exact μ.1)];unfold listed;rw[lP,μ.2,seen_none]
theorem aa.sP (cf:b.roundOf=none) (eo:b.defers=[]) (gq:b.kind=.normal) {fn:Func} (bY:P.funcs[b.fn]?=some fn) {d:Nat} (eY:fn.results=#[.tmp d]) {v:Value} (hv:a5 env d=.z v) {c:Frame}
  (h:dt (Go.Conc.G (c.finish v) cs)):aa dt b (c::cs) nt (.code .ret::k) env:=by
 intro t J γ;have ln:t.getD d undef=v:=by
  have:=γ d;rw[hv] at this;generalize t.getD d undef=u at this;cases this;rfl
 refine gr _ (Go.Conc.G {au b t (.code .ret::k) with mode:=.returning} (c::cs)) ⟨rfl,rfl⟩ (λw=>?_) (gr _ _ ⟨rfl,rfl⟩ (λw=>?_) h)
 ·rw[i' hb];unfold stepG.exec;simp only[au,cf];rfl
 ·rw[gD hb cf,stepG_leave (a:=⟨t,b.defers⟩) gq eo bY (results_tmp eY _ P w) (events_results_tmp eY _ _),ln]
theorem aa.EA (cf:b.roundOf=none) (eo:b.defers=[]) (gq:b.kind=.normal) {fn:Func} (bY:P.funcs[b.fn]?=some fn) (eY:fn.results=#[]) {c:Frame}
  (h:dt (Go.Conc.G (c.finish (.tuple #[])) cs)):aa dt b (c::cs) nt [] env:=by
 intro t J γ;refine gr _ (Go.Conc.G {au b t [] with mode:=.returning} (c::cs)) ⟨rfl,rfl⟩ (λw=>?_) (gr _ _ ⟨rfl,rfl⟩ (λw=>?_) h)
 ·rw[i' hb];unfold stepG.exec;simp only[au,cf];rfl
 ·rw[gD hb cf,stepG_leave (a:=⟨t,b.defers⟩) gq eo bY (Go.results_none eY _ P w) (Go.Conc.events_results_none eY _ _)]
end
attribute [congr] Zi
attribute [simp] wD Zg Zh yA
def j7 (P:Program) (Q:Value->Prop) (mn:Bool) (y:aU) (g:Goroutine):Prop:=iD g/\Goes P Q mn g {y with G:=ψ.empty}
def k0 (P:Program) (d:Nat) (g:Goroutine):Prop:=∃n,QuitsD P n d g
theorem bt {P:Program} {Q:Value->Prop} {mn:Bool} {y:aU} (U:eR y):IZ P mn (j7 P Q mn y):=λg g' J γ π=>⟨J,Quiet.goes (.cons J γ (.nil _)) U π.1 π.2⟩
theorem dT {P:Program} {d:Nat}:IZ P false (k0 P d):=λg g' J γ ⟨n,π⟩=>⟨n+1,.ctl J.1 γ π⟩
section
variable {P:Program} {Q:Value->Prop} {mn:Bool} {y:aU} {b:Frame} {cs:List Frame} {nt:Nat} {k:List Item} {env:Ω}
variable {ops:Array Oper} {i:Nat} {rest:List Nat} {op:Oper} {f:FuncId} {e:Array Value->Sem Value} {args:Array Operand} {vs:List Value}
theorem aa.leaves {d:Nat} (μ:y.rel=true) (Υ:∀s,Gone (y.tok s)) (hd:y.deaf=d) (h:aa (k0 P d) b cs nt k env):aa (j7 P Q false y) b cs nt k env:=λt J γ=>by
 obtain⟨n,Ι⟩:=h t J γ;subst hd;exact⟨⟨rfl,rfl⟩,Goes.quits n μ Υ Ι⟩
theorem aa.disable (U:eR y) (h:gW P b ops i op f (λ_=>do mark .disable;pure Extern.Race.none_) args env [] nt) (χ:aa (j7 P Q mn {y with deaf:=y.deaf+1}) b cs nt (.inRegion ops rest::k) (ca op env n')):aa (j7 P Q mn y) b cs nt (.inRegion ops (i::rest)::k) env:=λt J γ=>by
 obtain⟨s2,s1⟩:=q3 γ h.dst J (a:=n') (v:=.tuple #[]) (.z _);exact⟨⟨rfl,rfl⟩,Goes.step U.ok (.inr ⟨⟨rfl,rfl⟩,.inr (.inl ⟨Go.Conc.G (au b (put op t (.tuple #[])) (.inRegion ops rest::k)) cs,⟨rfl,rfl⟩,.inl λw _=>
  ⟨h.step γ (Eu .disable) (Ev .disable _) (rm (by simp)),(χ _ s1 s2).2⟩⟩)⟩)⟩
def I1 (P:Program) (Q:Value->Prop) (mn:Bool) (y:aU) (b:Frame) (cs:List Frame) (nt:Nat) (ops:Array Oper) (rest:List Nat) (k:List Item) (op:Oper) (env:Ω) (s φ:Nat) (ς:aM) (v:Value):Prop:=
 aa (j7 P Q mn {y with view:=upd y.view s (some (φ,ς))}) b cs nt (.inRegion ops rest::k) (ca op env (.z v))
def EP (P:Program) (Q:Value->Prop) (mn:Bool) (y:aU) (b:Frame) (cs:List Frame) (nt:Nat) (ops:Array Oper) (rest:List Nat) (k:List Item) (op:Oper) (env:Ω) (s φ:Nat) (ς:aM) (v:Value) (o':aM) (t':Tok):Prop:=
 Act ς (y.tok s) o' t'/\∀cn,cn<φ->aa (j7 P Q mn {y with tok:=upd y.tok s t',view:=upd y.view s (some (cn,o'))}) b cs nt (.inRegion ops rest::k) (ca op env (.z v))
theorem aa.ext (U:eR y) {s:Nat} {sp:Spec} (bX:y.spec s=some sp) (cQ:¬fO (y.tok s)) (h:gW P b ops i op f e args env vs nt)
  (aS:∀(w:World) (φ:Nat) (ς:aM),Seen y s sp φ ς->At s ς w->
   (∃v w' gg,(e vs.toArray).run P w=.ok v w'/\(e vs.toArray).events P w #[⟨.mark (Mark.extern f),false,true⟩]=#[⟨.mark (Mark.extern f),false,true⟩]++gg/\(∀y∈gg,y.sync=true/\∀g,y.loc≠.mark (Mark.extern g))/\
    ft (λΦ _=>ei s sp Φ) (λ_=>False) w w'/\ow s sp y.deaf gg/\
    ((At s ς w'/\I1 P Q mn y b cs nt ops rest k op env s φ ς v)\/∃o' t',At s o' w'/\EP P Q mn y b cs nt ops rest k op env s φ ς v o' t'))) :
  aa (j7 P Q mn y) b cs nt (.inRegion ops (i::rest)::k) env:=by
 obtain⟨dW,Ν⟩:=h.call;intro t J γ;refine⟨⟨rfl,rfl⟩,Goes.step U.ok (.inr ⟨⟨rfl,rfl⟩,.inr (.inr (.inr (.inl ⟨s,sp,bX,cQ,λw φ ς Τ hv Γ bH zf Iv=>?_⟩)))⟩)⟩;obtain⟨v,w',gg,a1,ba,cm,fY,hH,l6⟩:=aS w φ ς ⟨Γ,zf,Iv⟩ bH;have cE:=Es (mn:=mn) (cs:=cs) (rest:=rest) (k:=k) h.kQ h.at_ (jX γ h.want) Ν (h.AQ.br γ) a1 ba cm;refine .inl ?_;rw[cE];obtain⟨s2,s1⟩:=q3 γ h.dst J (a:=.z v) (v:=v) (.z _);refine⟨⟨rfl,rfl⟩,fY,hH,?_⟩;rcases l6 with⟨aB,bc⟩|⟨o',t',aB,bc,gR⟩
 ·exact .inl ⟨aB,(bc _ s1 s2).2⟩
 ·exact .inr ⟨o',t',bc,aB,.inl (Of h.kQ h.at_ Ν),λcn et=>(gR cn et _ s1 s2).2⟩
section
variable {s:Nat} {sp:Spec} (U:eR y) (hd:0<y.deaf) (bX:y.spec s=some sp) (cQ:¬fO (y.tok s))
include U hd bX cQ
theorem aa.Iw (h:gW P b ops i op f (Extern.Atomic.loadT (.int .u64)) args env [.pointer (some ⟨s,0,none⟩)] nt)
  (dq:∀φ ς,Seen y s sp φ ς->I1 P Q mn y b cs nt ops rest k op env s φ ς (.int .u64 (cN ς))):aa (j7 P Q mn y) b cs nt (.inRegion ops (i::rest)::k) env:=by
 refine .ext U bX cQ h λw φ ς ο bH=>?_;have ζ:=bH.cP;refine⟨.int .u64 (cN ς),w,#[⟨.cell ⟨s,0,none⟩,false,true⟩],?_,?_,rr (rq _ false),ft.refl _ _ _,rn (.inl rfl) hd (rq _ false),.inl ⟨bH,dq φ ς ο⟩⟩
 ·change Sem.run P (do Extern.Atomic.read (.int .u64) (<-asAddr (.pointer (some _)))) w=_;simp[Extern.Atomic.read,asAddr,ζ]
 ·change Sem.events P (do Extern.Atomic.read (.int .u64) (<-asAddr (.pointer (some _)))) w _=_;simp[Extern.Atomic.read,asAddr,ζ,events_load]
theorem aa.Ix {d:Int} (h:gW P b ops i op f (Extern.Atomic.update (Op.intArith .add) .u64 true) args env [.pointer (some ⟨s,0,none⟩),.int .u64 d] nt)
  (dq:∀φ ς,Seen y s sp φ ς->∃o' t',cN o'=IntKind.u64.wrap (cN ς+d)/\o'.cH=ς.cH/\ru ς o'/\EP P Q mn y b cs nt ops rest k op env s φ ς (.int .u64 (cN o')) o' t') :
  aa (j7 P Q mn y) b cs nt (.inRegion ops (i::rest)::k) env:=by
 refine .ext U bX cQ h λw φ ς ο bH=>?_;have ζ:=bH.cP;have Η:=bH.uC 0;obtain⟨o',t',J,γ,π,Μ⟩:=dq φ ς ο;rw[J] at Μ;refine⟨_,_,_,run_add_entry ζ Η,(events_add_entry ζ Η _).trans rfl,rr (rp ⟨s,0,none⟩),bH.yp _,rn (.inl rfl) hd (rp ⟨s,0,none⟩),.inr ⟨o',t',bH.yo π.aT π.g π.w ?_,Μ⟩⟩;rw[J,γ];rfl
theorem aa.Zk {d:Int} (h:gW P b ops i op f Extern.Atomic.storeT args env [.pointer (some ⟨s,0,none⟩),.int .u64 d] nt)
  (dq:∀φ ς,Seen y s sp φ ς->∃o' t',cN o'=d/\o'.cH=ς.cH/\ru ς o'/\EP P Q mn y b cs nt ops rest k op env s φ ς (.tuple #[]) o' t') :
  aa (j7 P Q mn y) b cs nt (.inRegion ops (i::rest)::k) env:=by
 refine .ext U bX cQ h λw φ ς ο bH=>?_;have ζ:=bH.cP;have Η:=bH.uC 0;obtain⟨o',t',J,γ,π,Μ⟩:=dq φ ς ο;refine⟨.tuple #[],w.setCell ⟨s,0,none⟩ (.int .u64 d),#[⟨.cell ⟨s,0,none⟩,true,true⟩],?_,?_,rr (rq _ true),bH.yp _,rn (.inl rfl) hd (rq _ true),.inr ⟨o',t',bH.yo π.aT π.g π.w (by rw[J,γ];rfl),Μ⟩⟩
 ·change Sem.run P (do
   store (<-asAddr (.pointer (some _))) (.int .u64 d) .atomic
   pure Extern.Atomic.none_) w=_
  simp[asAddr,ζ,Η,run_store P w _ (.int .u64 d) .atomic rfl,Result.andThen,Extern.Atomic.none_]
 ·change Sem.events P (do
   store (<-asAddr (.pointer (some _))) (.int .u64 d) .atomic
   pure Extern.Atomic.none_) w _=_
  simp[asAddr,ζ,Η,events_store P w _ _ (.int .u64 d) .atomic rfl]
end
section
variable {s:Nat} {sp:Spec} (U:eR y) (bX:y.spec s=some sp) (cQ:¬fO (y.tok s))
include U bX cQ
theorem aa.Zl (ah:vs[0]?=some (.pointer (some ⟨s,1,none⟩))) (h:gW P b ops i op f Extern.Sync.semrelease args env vs nt)
  (dq:∀φ ς,Seen y s sp φ ς->ς.cH<1000/\∃o' t',cN o'=cN ς/\o'.cH=ς.cH+1/\ru ς o'/\EP P Q mn y b cs nt ops rest k op env s φ ς (.tuple #[]) o' t') :
  aa (j7 P Q mn y) b cs nt (.inRegion ops (i::rest)::k) env:=by
 refine .ext U bX cQ h λw φ ς ο bH=>?_;have ζ:=bH.Ρ;obtain⟨aH,o',t',J,γ,π,Μ⟩:=dq φ ς ο;refine⟨_,_,_,Oq ah ζ (bH.uC 1),Ot ah ζ (bH.uC 1) _,semEvents_sync _,bH.yp _,Ez (.inl rfl),.inr ⟨o',t',bH.yo π.aT π.g π.w ?_,Μ⟩⟩;rw[J,γ,show IntKind.u32.wrap (((ς.cH:Nat):Int)+1)=((ς.cH+1:Nat):Int) by simp only[IntKind.wrap_u32];omega];rfl
end
theorem O5 {t:Array Value} (hb:b.mode=.run) (cf:b.roundOf=none) (eo:b.defers=[Go.Conc.dcall f #[]]) (gq:b.kind=.normal) {fn:Func} (bY:P.funcs[b.fn]?=some fn) (eY:fn.results=#[]) (he:Entry P f (λ_=>do mark .enable;pure Extern.Race.none_)) {c:Frame}
  (h:k0 P 0 (Go.Conc.G (c.finish (.tuple #[])) cs)):k0 P 1 (Go.Conc.G {au b t k with mode:=.returning} (c::cs)):=by
 obtain⟨iΦ,Ε,Ζ,a6,cD,eN⟩:=he;obtain⟨n,Ι⟩:=h;rw[gD hb cf];refine⟨n+1+1,QuitsD.unwind_mark (a:=⟨t,b.defers⟩) (ds:=[]) .enable rfl (by simp) eo Ε Ζ a6 cD eN ?_⟩;exact .ctl rfl (λw=>stepG_leave (a:=⟨t,[]⟩) gq rfl bY (Go.results_none eY _ P w) (Go.Conc.events_results_none eY _ _)) Ι
theorem aa.IU (hb:b.mode=.run) (cf:b.roundOf=none) (eo:b.defers=[Go.Conc.dcall f #[]]) (gq:b.kind=.normal) {fn:Func} (bY:P.funcs[b.fn]?=some fn) (eY:fn.results=#[]) (he:Entry P f (λ_=>do mark .enable;pure Extern.Race.none_)) {c:Frame}
  (h:k0 P 0 (Go.Conc.G (c.finish (.tuple #[])) cs)):aa (k0 P 1) b (c::cs) nt (.code .ret::k) env:=λt _ _=>by
 refine dT _ (Go.Conc.G {au b t (.code .ret::k) with mode:=.returning} (c::cs)) ⟨rfl,rfl⟩ (λw=>?_) (O5 hb cf eo gq bY eY he h);rw[i' hb];unfold stepG.exec;simp only[au,cf];rfl
theorem aa.Zm (hb:b.mode=.run) (cf:b.roundOf=none) (eo:b.defers=[Go.Conc.dcall f #[]]) (gq:b.kind=.normal) {fn:Func} (bY:P.funcs[b.fn]?=some fn) (eY:fn.results=#[]) (he:Entry P f (λ_=>do mark .enable;pure Extern.Race.none_)) {c:Frame}
  (h:k0 P 0 (Go.Conc.G (c.finish (.tuple #[])) cs)):aa (k0 P 1) b (c::cs) nt [] env:=λt _ _=>by
 refine dT _ (Go.Conc.G {au b t [] with mode:=.returning} (c::cs)) ⟨rfl,rfl⟩ (λw=>?_) (O5 hb cf eo gq bY eY he h);rw[i' hb];unfold stepG.exec;simp only[au,cf];rfl
end
def yB (x:aU):aU:={x with aF:=λ_=>none,rel:=true}
theorem V.Gx {P:Program} {Q:Value->Prop} {x:aU} {b:Frame} {cs:List Frame} {nt:Nat} {o:Base} {k:List Item} {env:Ω} {ops:Array Oper} {i:Nat} {rest:List Nat} {op:Oper} {f:FuncId} {args:Array Operand} (U:x.rel=false) {s n:Nat} {sp:Spec} {mu:k'} {v:Option (Nat×aM)} (bX:x.spec s=some sp) (tu:mu=.done\/(mu=.idle/\sp.aT=none)) (cQ:∀bq,bq≠s->fO (x.tok bq)) (dL:sp.D n ψ.empty)
  (h:gW P b ops i op f (Extern.Race.marked .releaseMerge) args env [.pointer (some ⟨s,0,none⟩)] nt) (he:∀p∈ca op env n',∃v,p.2=θ.z v)
  (χ:aa (j7 P Q false (bx (yB x) s (.ch n mu .rel) none 0)) b cs nt (.inRegion ops rest::k) (ca op env n')):V P Q false (one (bx x s (.ch n mu .work) v 0)) b cs nt o (.inRegion ops (i::rest)::k) env []:=by
 intro S B H t ν ω y Ο;cases Ο;have mA:=ω.put h.dst (a:=n') (v:=.tuple #[]) (.z _);have Υ:=(χ _ mA.size (A3 he mA.b6)).2;refine Goes.step (eR.ok (.inl U)) (.inr ⟨⟨rfl,rfl⟩,.inr (.inr (.inr (.inr (.inr (.inr (.inl ⟨s,sp,n,mu,Go.Conc.G (au b (put op t (.tuple #[])) (.inRegion ops rest::k)) cs,ψ.empty,bX,b3 (v:=v) (d:=0),tu,λbq iS=>by
  rw[show({bx x s (.ch n mu .work) v 0 with G:=H}:aU).tok bq=(bx x s (.ch n mu .work) v 0).tok bq from rfl,AU iS];exact cQ bq iS,rfl,⟨rfl,rfl⟩,U,λw _=>
  h.step ω.b6 (yl .releaseMerge _) (ym .releaseMerge _ _) (rm (by simp)),⟨λb o v p ζ=>(by cases ζ),λb y ζ=>(by cases ζ),λb y ζ=>(by cases ζ)⟩,dL,?_⟩))))))⟩)
 have e:({({bx x s (.ch n mu .work) v 0 with G:=H}:aU) with G:=ψ.empty,aF:=λ_=>none,tok:=upd ({bx x s (.ch n mu .work) v 0 with G:=H}:aU).tok s (.ch n mu .rel),view:=upd ({bx x s (.ch n mu .work) v 0 with G:=H}:aU).view s none,rel:=true}:aU)={bx (yB x) s (.ch n mu .rel) none 0 with G:=ψ.empty}:=by
  unfold bx yB;simp only[IA]
 exact e▸Υ
end Go.TL
