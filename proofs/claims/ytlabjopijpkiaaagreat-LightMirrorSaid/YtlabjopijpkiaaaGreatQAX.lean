import Derived.Test.YtlabjopijpkiaaaGreatQAW
set_option maxHeartbeats 16000000
set_option maxRecDepth 20000
set_option linter.unusedSectionVars false
set_option linter.unusedSimpArgs false
set_option linter.unusedVariables false
namespace Go.TL
open Go.Conc Go.Proofs
open Go.ConcN (sumTo upd sumTo_upd upd_ne upd_same sumTo_congr le_sumTo)
structure kL (x:aK) (s:Nat) (sp:Spec):Prop where
 rel:x.rel=false
 ao:x.ao=λ_=>none
 spec:x.spec s=some sp
 top:sp.top<7
 still:∀a7,a7≠s->lU (x.tok a7)
theorem kL.seq {x:aK} {s:Nat} {sp:Spec} (h:kL x s sp):∀t v d,@Seq ev (one (bb x s t v d)):=λt v d=>@Seq.ss ev _ trivial h.rel h.ao
abbrev g3 (c w:Nat):Int:=(c:Int)*4294967296+w
theorem Cs:∀c<8,∀w<2,ff .u64 (g3 c w) 2147483648=0:=by decide +kernel
theorem Ct:∀c<8,∀w<2,IntKind.i32.wrap ((g3 c w).fdiv (2 ^ min 32 IntKind.u64.bits))=c:=by decide +kernel
theorem Cu:∀c<8,∀w<2,IntKind.u32.wrap (ff .u64 (g3 c w) 2147483647)=w:=by decide +kernel
theorem VF:∀c<7,∀w<2,IntKind.u64.wrap (g3 c w+4294967296)=g3 (c+1) w:=by decide +kernel
theorem VG:∀c<8,∀w<2,0<c->IntKind.u64.wrap (g3 c w+18446744069414584320)=g3 (c-1) w:=by decide +kernel
theorem VH:∀c<8,IntKind.u64.wrap (g3 c 0+1)=g3 c 1:=by decide +kernel
theorem LO:IntKind.u64.wrap 1=1:=by decide
theorem LP:IntKind.u64.wrap (2 ^ min 32 IntKind.u64.bits)=4294967296:=by decide
theorem Gn:IntKind.i32.wrap 1=1:=by decide
theorem sA (ο:aD):cu ο=g3 ο.cnt ο.wt:=rfl
section
variable {Q:Value->Prop} {mn:Bool} {x:aK} {c:Frame} {rest:List Frame} {S:al} {B:aH} {σ:List Row} {H:υ} {s k:Nat} {sp:Spec} {v:Option (Nat×aD)} {t:Tok}
theorem Cv (η:kL x s sp) {ο:aD} (h:ο.toSpec=sp):ο.top<7:=by have:=η.top;rw[show ο.top=sp.top by rw[<-h]];exact this
def v7 (Q:Value->Prop) (mn:Bool) (x:aK) (c:Frame) (rest:List Frame) (S:al) (H:υ) (r:Value):Prop:=
 ∀(aj:al) (H':υ),Ext S [] H aj [] H'->Holds aj [] [] H'->b4 Tryz.prog Q mn x (c.finish r) rest H'
theorem VI (η:kL x s sp) (cG:¬fi t) {d:Int} (ψ:Holds S B σ H)
  (c9:∀φ ο,Seen (bb x s t v 1) s sp φ ο->∃o' t',cu o'=IntKind.u64.wrap (cu ο+d)/\o'.cn=ο.cn/\pW ο o'/\Act ο t o' t'/\∀b1,b1<φ->v7 Q mn (bb x s t' (some (b1,o')) 1) c rest S H (.int .u64 (cu o'))) :
  b4 Tryz.prog Q mn (bb x s t v 1) (Frame.enter Tryz.prog 166 #[ptr s 0,.int .u64 d] .normal) (c::rest) H:=by
 letI:bh:=ev;have U:=η.seq;refine V.oL (z:=one _) (vs:=[ptr s 0,.int .u64 d]) Tryz.func166 rfl ψ (by simp[Tryz.ntmps166]) ?_ _ rfl;refine V.a0 (U _ _ _) rfl ?_;(repeat (first|apply aO|apply aP|apply aQ|apply wd|refine ax rfl ?_|refine au rfl ?_|(refine ξ λθ I=>?_;simp;(repeat (rw[ε];simp));apply I)));refine W.b0 ?_;refine W.part (A:=[]) Μ [0,1,2,3] [4,5] rfl λθ I=>?_;(try simp);(repeat (rw[ε];simp));apply I;refine W.stop ?_;refine V.F5 (U _ _ _).here (Nat.succ_pos _) (sp:=sp) η.spec (by rw[bP];exact cG) ⟨⟨rfl,rfl,by simp[Frame.enter],rfl⟩,Lq,⟨_,rfl⟩,rfl,rfl,rfl⟩ (λφ ο ν=>?_);obtain⟨o',t',J,R,ς,Κ,aF⟩:=c9 φ ο ν;refine⟨o',t',J,R,ς,by rw[bP];exact Κ,λb1 dX=>?_⟩;rw[gf];refine V.a0 (U _ _ _) rfl ?_;refine W.part (A:=[]) Μ [5] [] rfl λθ I=>?_;(try simp);(repeat (rw[ε];simp));(try simp[]);apply I;refine W.bm (.stop ?_);refine V.q6 (U _ _ _) rfl rfl rfl rfl Tryz.func166 rfl rfl λbr bB H1 κ iB=>?_;obtain rfl:bB=[]:=dk.1 iB.len;rintro y rfl;exact aF b1 dX br H1 κ.ext iB
theorem Gp (η:kL x s sp) (cG:¬fi t) (ψ:Holds S B σ H)
  (c9:∀φ ο,Seen (bb x s t v 1) s sp φ ο->v7 Q mn (bb x s t (some (φ,ο)) 1) c rest S H (.int .u64 (cu ο))\/∃t',Act ο t ο t'/\∀b1,b1<φ->v7 Q mn (bb x s t' (some (b1,ο)) 1) c rest S H (.int .u64 (cu ο))) :
  b4 Tryz.prog Q mn (bb x s t v 1) (Frame.enter Tryz.prog 168 #[ptr s 0] .normal) (c::rest) H:=by
 letI:bh:=ev;have U:=η.seq;refine V.oL (z:=one _) (vs:=[ptr s 0]) Tryz.func168 rfl ψ (by simp[Tryz.ntmps168]) ?_ _ rfl;refine V.a0 (U _ _ _) rfl ?_;(repeat (first|apply aO|apply aP|apply aQ|apply wd|refine ax rfl ?_|refine au rfl ?_|(refine ξ λθ I=>?_;simp;(repeat (rw[ε];simp));apply I)));refine W.b0 ?_;refine W.part (A:=[]) Μ [0,1,2] [3,4] rfl λθ I=>?_;(try simp);(repeat (rw[ε];simp));apply I;refine W.stop ?_;refine V.F4 (U _ _ _).here (Nat.succ_pos _) (sp:=sp) η.spec (by rw[bP];exact cG) ⟨⟨rfl,rfl,by simp[Frame.enter],rfl⟩,Lr,⟨_,rfl⟩,rfl,rfl,rfl⟩ (λφ ο ν=>(c9 φ ο ν).imp (λh=>?_) (λ⟨t',Κ,aF⟩=>⟨t',by rw[bP];exact Κ,λb1 dX=>?_⟩))
 ·unfold g8;rw[jf];refine V.a0 (U _ _ _) rfl ?_;refine W.part (A:=[]) Μ [4] [] rfl λθ I=>?_;(try simp);(repeat (rw[ε];simp));(try simp[]);apply I;refine W.bm (.stop ?_);refine V.q6 (U _ _ _) rfl rfl rfl rfl Tryz.func168 rfl rfl λbr bB H1 κ iB=>?_;obtain rfl:bB=[]:=dk.1 iB.len;rintro y rfl;exact h br H1 κ.ext iB
 ·rw[gf];refine V.a0 (U _ _ _) rfl ?_;refine W.part (A:=[]) Μ [4] [] rfl λθ I=>?_;(try simp);(repeat (rw[ε];simp));(try simp[]);apply I;refine W.bm (.stop ?_);refine V.q6 (U _ _ _) rfl rfl rfl rfl Tryz.func168 rfl rfl λbr bB H1 κ iB=>?_;obtain rfl:bB=[]:=dk.1 iB.len;rintro y rfl;exact aF b1 dX br H1 κ.ext iB
theorem VJ (η:kL x s sp) (cG:¬fi t) (ψ:Holds S B σ H) {old new:Int}
  (yE:∀φ ο,Seen (bb x s t v 1) s sp φ ο->¬cu ο=old->v7 Q mn (bb x s t (some (φ,ο)) 1) c rest S H (.bool false))
  (c9:∀φ ο,Seen (bb x s t v 1) s sp φ ο->cu ο=old->∃o' t',cu o'=new/\o'.cn=ο.cn/\pW ο o'/\Act ο t o' t'/\∀b1,b1<φ->v7 Q mn (bb x s t' (some (b1,o')) 1) c rest S H (.bool true)) :
  b4 Tryz.prog Q mn (bb x s t v 1) (Frame.enter Tryz.prog 179 #[ptr s 0,.int .u64 old,.int .u64 new] .normal) (c::rest) H:=by
 letI:bh:=ev;have U:=η.seq;refine V.oL (z:=one _) (vs:=[ptr s 0,.int .u64 old,.int .u64 new]) Tryz.func179 rfl ψ (by simp[Tryz.ntmps179]) ?_ _ rfl;refine V.a0 (U _ _ _) rfl ?_;(repeat (first|apply aO|apply aP|apply aQ|apply wd|refine ax rfl ?_|refine au rfl ?_|(refine ξ λθ I=>?_;simp;(repeat (rw[ε];simp));apply I)));refine W.b0 ?_;refine W.part (A:=[]) Μ [0,1,2,3,4] [5,6] rfl λθ I=>?_;(try simp);(repeat (rw[ε];simp));apply I;refine W.stop ?_;refine V.UJ (U _ _ _).here (Nat.succ_pos _) (sp:=sp) η.spec (by rw[bP];exact cG) ⟨⟨rfl,rfl,by simp[Frame.enter],rfl⟩,Vd,⟨_,rfl⟩,rfl,rfl,rfl⟩ (λφ ο ν hv=>?_) (λφ ο ν hv=>?_)
 ·have h:=yE φ ο ν hv;unfold g8;rw[jf];refine V.a0 (U _ _ _) rfl ?_;refine W.part (A:=[]) Μ [6] [] rfl λθ I=>?_;(try simp);(repeat (rw[ε];simp));(try simp[]);apply I;refine W.bm (.stop ?_);refine V.q6 (U _ _ _) rfl rfl rfl rfl Tryz.func179 rfl rfl λbr bB H1 κ iB=>?_;obtain rfl:bB=[]:=dk.1 iB.len;rintro y rfl;exact h br H1 κ.ext iB
 ·obtain⟨o',t',J,R,ς,Κ,aF⟩:=c9 φ ο ν hv;refine⟨o',t',J,R,ς,by rw[bP];exact Κ,λb1 dX=>?_⟩;rw[gf];refine V.a0 (U _ _ _) rfl ?_;refine W.part (A:=[]) Μ [6] [] rfl λθ I=>?_;(try simp);(repeat (rw[ε];simp));(try simp[]);apply I;refine W.bm (.stop ?_);refine V.q6 (U _ _ _) rfl rfl rfl rfl Tryz.func179 rfl rfl λbr bB H1 κ iB=>?_;obtain rfl:bB=[]:=dk.1 iB.len;rintro y rfl;exact aF b1 dX br H1 κ.ext iB
end
theorem e5.fs {m nt:Nat} {S aj:al} {B:aH} {H H':υ} {env:Φ} {t:Array Value} (h:e5 m nt S B H [] env t) (he:∀p∈env,∃v,p.2=ζ.z v) (ψ:Holds aj [] [] H'):e5 0 nt aj [] H' [] env t:=⟨ψ,yR he h.b7,h.size,Nat.le_refl _⟩
theorem b4.Gq [bh] {P:Program} {Q:Value->Prop} {mn:Bool} {x:aK} {c b:Frame} {rest:List Frame} {H:υ} {t:Array Value} {k:List Item} {fn:Func} {f:FuncId} (U:Seq (one x)) (gN:Seq (one {x with deaf:=x.deaf-1})) (hd:0<x.deaf) (hb:b.mode=.run) (bZ:b.roundOf=none) (eh:b.defers=[Go.Conc.dcall f #[]]) (fW:b.kind=.normal) (cA:P.funcs[b.fn]?=some fn) (eB:fn.results=#[])
  (he:Entry P f (λ_=>do mark .enable;pure Extern.Race.none_)) (h:b4 P Q mn {x with deaf:=x.deaf-1} (c.finish (.tuple #[])) rest H):b4 P Q mn x (ai b t (.code .ret::k)) (c::rest) H:=by
 refine aB.ret (x:=one x) U hb bZ (λy ad=>?_) x rfl;cases ad;refine b4.UP U.here hd hb bZ eh he ?_;refine aB.back (f:={ai {b with defers:=[]} t (.code .ret::k) with mode:=.returning}) (x:=one {x with deaf:=x.deaf-1}) gN rfl rfl (.inl fW) cA ?_ _ rfl;rw[results_none eB];refine π.pure' (λy ad=>?_);cases ad;exact h
section
variable {Q:Value->Prop} {mn:Bool} {x:aK} {c:Frame} {rest:List Frame} {S:al} {B:aH} {σ:List Row} {H:υ} {s n p:Nat} {sp:Spec} {v:Option (Nat×aD)} {t:Tok}
theorem VK (η:kL x s sp) (Ι:n<sp.top) (ψ:Holds S B σ H)
  (Ζ:∀v,v7 Q mn (bb x s (.par (n+1) (p+1) .add) v 0) c rest S H (.tuple #[])) :
  b4 Tryz.prog Q mn (bb x s (.par n p .add) v 0) (Frame.enter Tryz.prog 140 #[ptr s 0,.int .i64 1] .normal) (c::rest) H:=by
 letI:bh:=ev;have U:=η.seq;refine V.oL (z:=one _) (vs:=[ptr s 0,.int .i64 1]) Tryz.func140 rfl ψ (by simp[Tryz.ntmps140]) ?_ _ rfl;refine V.a0 (U _ _ _) rfl ?_;(repeat (first|apply aO|apply aP|apply aQ|apply wd|refine ax rfl ?_|refine au rfl ?_|(refine ξ λθ I=>?_;simp;(repeat (rw[ε];simp));apply I)));refine W.b0 (.stop ?_);refine V.disable (U _ _ _).here ⟨⟨rfl,rfl,by simp[Frame.enter],rfl⟩,yK,⟨_,rfl⟩,rfl,rfl,rfl⟩ ?_;rw[yF];refine V.a0 (U _ _ _) rfl ?_;refine W.bm ?_
 repeat first|apply aO|apply aP|apply aQ|apply wd
 refine W.b0 (.stop ?_);refine V.F7 (U _ _ _) ⟨rfl,rfl,by simp[Frame.enter],rfl⟩ rfl rfl rfl ?_;refine V.a0 (U _ _ _) rfl ?_;refine W.bm ?_;(repeat (first|apply aO|apply aP|apply aQ|apply wd|refine ax rfl ?_|refine au rfl ?_|(refine ξ λθ I=>?_;simp;(repeat (rw[ε];simp));apply I)));refine W.b0 (.stop ?_);refine V.Cg (U _ _ _) (vs:=[]) ⟨⟨rfl,rfl,by simp[Frame.enter],rfl⟩,Lo,⟨_,rfl⟩,rfl,rfl,rfl⟩ ?_;refine V.a0 (U _ _ _) rfl ?_;refine W.bm ?_;(repeat (first|apply aO|apply aP|apply aQ|apply wd|refine ax rfl ?_|refine au rfl ?_|(refine ξ λθ I=>?_;simp;(repeat (rw[ε];simp));apply I)));refine W.b0 ?_;refine W.part (A:=[]) Μ [0,1,2,3,4,5] [6,7] rfl λθ I=>?_;(try simp);(repeat (rw[ε];simp[LO,LP]));(try simp[LO,LP]);apply I;refine W.stop ?_;refine V.call (U _ _ _) ⟨rfl,rfl,by simp[Frame.enter],rfl⟩ rfl rfl rfl ⟨_,Tryz.func166,rfl,rfl⟩ λbr bB H1 t1 nE κ χ hv=>?_;obtain rfl:=lE (l:=[ptr s 0,.int .u64 4294967296]) hv;obtain rfl:bB=[]:=dk.1 χ.holds.len;rintro y rfl;refine VI η id χ.holds λφ ο ν=>?_;have Α:=ν.ie.q9;rw[bP] at Α;obtain⟨Ξ,aa,aM,b9,fV⟩:=Α.add n p rfl;have fN:=Cv η ν.spec;have pn:n<ο.top:=by rw[show ο.top=sp.top by rw[<-ν.spec]];exact Ι
 have small:∀a b c d:Nat,a=b+1->b<=c->c<d->d<7->a<8/\b<7/\0<a/\¬a=0:=λa b c d J R ς Κ=>by omega
 obtain⟨cc,lb⟩:∃cc,cc=ο.cnt+1:=⟨_,rfl⟩;obtain⟨k1,cB,og,cΞ⟩:=small cc ο.cnt n ο.top lb fV pn fN;have pd:cu {ο with cnt:=cc}=g3 cc 0:=by rw[sA];simp only[Ξ]
 refine⟨{ο with cnt:=cc},.par (n+1) (p+1) .add,?_,rfl,⟨rfl,rfl,rfl⟩,by rw[lb];exact .add pn,λb1 dX cV bH j2 h6=>?_⟩
 ·rw[pd,sA,Ξ,VF ο.cnt cB 0 (by decide),lb]
 have f1:=Cs cc k1 0 (by decide)
 have f2:=Ct cc k1 0 (by decide)
 have f3:=Cu cc k1 0 (by decide);rw[pd];generalize g3 cc 0=w at f1 f2 f3;rw[ho rfl];refine V.here (x:=one _) (m:=0) (nt:=117) ?_ ((χ.put (a:=.z (.int .u64 w)) rfl (.z _)).fs (by simp) h6) _ rfl;have fin:∀(v:Option (Nat×aD)) (env:Φ) (K:List Item),V Tryz.prog Q mn (one (bb x s (.par (n+1) (p+1) .add) v 1)) {Frame.enter Tryz.prog 140 #[ptr s 0,.int .i64 1] .normal with defers:=[Go.Conc.dcall 161 #[]]} (c::rest) 117 ⟨cV,[],bH,[],0⟩ (.code .ret::K) env []:=λv env K jy jz ic t3 gI eY=>by
  rintro y rfl;obtain rfl:jz=[]:=dk.1 eY.holds.len;exact b4.Gq (U _ _ _) (U _ _ 0) (Nat.succ_pos _) rfl rfl rfl rfl Tryz.func140 rfl sw (Ζ v jy ic ((κ.ext.trans j2).trans gI.ext) eY.holds)
 refine V.a0 (U _ _ _) rfl ?_;refine W.part (A:=[]) Μ [7] [] rfl λθ I=>?_;(try simp);(repeat (rw[ε];simp));(try simp[]);apply I;refine W.bm ?_;by_cases J:cc=1
 ·(repeat (first|apply aO|apply aP|apply aQ|apply wd|refine ax rfl ?_|refine au rfl ?_|(refine ξ λθ I=>?_;simp;(repeat (rw[ε];simp[f1,f2,f3,Gn,J]));apply I)));refine W.b0 ?_;refine W.part (A:=[]) Μ [0,1,2] [3,4] rfl λθ I=>?_;(try simp);(repeat (rw[ε];simp));apply I;refine W.stop ?_;refine V.conv (U _ _ _).here (sp:=sp) η.spec (by rw[bP];exact id) ⟨rfl,rfl,by simp[Frame.enter],rfl⟩ rfl rfl rfl Lu sx Lv rfl (λο w ω bk=>⟨_,bk.Ξ⟩) (λφ ο ν=>?_);unfold g8;rw[jf];refine V.UH η.rel bP (by simp) ⟨⟨rfl,rfl,by simp[Frame.enter],rfl⟩,Va,⟨_,rfl⟩,rfl,rfl,rfl⟩ ?_;refine V.a0 (U _ _ _) rfl ?_;refine W.bm ?_;(repeat (first|apply aO|apply aP|apply aQ|apply wd|refine ax rfl ?_|refine au rfl ?_|(refine ξ λθ I=>?_;simp;(repeat (rw[ε];simp[f1,f2,f3,Gn,J]));apply I)));exact .stop (fin _ _ _)
 ·have u1:¬(cc:Int)=1:=λh=>J (by exact_mod_cast h);(repeat (first|apply aO|apply aP|apply aQ|apply wd|refine ax rfl ?_|refine au rfl ?_|(refine ξ λθ I=>?_;simp;(repeat (rw[ε];simp[f1,f2,f3,Gn,J,u1,og]));apply I)));exact .stop (fin _ _ _)
end
noncomputable def yW:Code:=Tryz.f146.body.getD .skip
noncomputable def mf:Code:=du [1,0,0] yW
noncomputable def ui:List Item:=[.inLoop mf,.inBlock 0]
theorem LQ:ff .u64 0 2147483648=0:=by decide
theorem LR:ff .u64 0 2147483647=0:=by decide
theorem Cw:IntKind.u32.wrap 0=0:=by decide
theorem LS:IntKind.i32.wrap 0=0:=by decide
section
variable {Q:Value->Prop} {mn:Bool} {x:aK} {c:Frame} {rest:List Frame} {S:al} {B:aH} {σ:List Row} {H:υ} {s n p:Nat} {sp:Spec} {v:Option (Nat×aD)} {t:Tok}
abbrev sB (Q:Value->Prop) (mn:Bool) (x:aK) (c:Frame) (rest:List Frame) (S:al) (H:υ) (s:Nat) (t:Tok) (v:Option (Nat×aD)) (d:Nat) (K:List Item) (env:Φ):Prop:=
 V Tryz.prog Q mn (one (bb x s t v d)) (Frame.enter Tryz.prog 146 #[ptr s 0] .normal) (c::rest) 84 ⟨S,[],H,[],0⟩ K env []
def p0 (Q:Value->Prop) (mn:Bool) (x:aK) (c:Frame) (rest:List Frame) (S:al) (H:υ) (s n:Nat) (sp:Spec):Prop:=
 ∀(aj:al) (H':υ) (fv e3:List Nat) (fQ ed:υ),Ext S [] H aj [] H'->Holds aj [] [] H'->fv.Perm (List.range n)->ko sp.D fv fQ->(sp.aI≠none->e3.Perm (List.range n)/\sp.bw e3 ed)->(sp.aI=none->ed=υ.empty)->Apart H' fQ->Apart H' ed->Apart fQ ed->(∃w,Fits H' w/\Fits fQ w/\Fits ed w)->
  ∀(v:Option (Nat×aD)) (cV:al) (bH:υ),Ext eL [] (join (join H' fQ) ed) cV [] bH->b4 Tryz.prog Q mn (bb x s (.par n 0 .bf) v 0) (c.finish (.tuple #[])) rest bH
theorem p0.later {cV:al} {bH:υ} (h:p0 Q mn x c rest S H s n sp) (he:Ext S [] H cV [] bH):p0 Q mn x c rest cV bH s n sp:=
 λaj H' fv e3 fQ ed a1 bg cr fX hI m7 sS rn wV Dn v jy ic wW=>h aj H' fv e3 fQ ed (he.trans a1) bg cr fX hI m7 sS rn wV Dn v jy ic wW
theorem LU (η:kL x s sp) (Ζ:∀(v:Option (Nat×aD)) (cV:al) (bH:υ),Ext eL [] H cV [] bH->b4 Tryz.prog Q mn (bb x s (.par n 0 .bf) v 0) (c.finish (.tuple #[])) rest bH) {K:List Item} {env:Φ}:sB Q mn x c rest eL H s (.par n 0 .bf) v 0 (.code .ret::K) env:=by
 letI:bh:=ev;have U:=η.seq;refine V.F6 (U _ _ _) rfl rfl rfl rfl Tryz.func146 rfl λbr bB H1 κ ψ=>?_;obtain rfl:bB=[]:=dk.1 ψ.len;rintro y rfl;exact Ζ v br H1 κ.ext
theorem LV (η:kL x s sp) (cS:p0 Q mn x c rest S H s n sp):sB Q mn x c rest S H s (.par n 0 .kR) v 1 (.code (du [0,1] mf)::.inBlock 1::ui) [(0,.z (ptr s 0)),(2,.z (.int .u64 0))]:=by
 letI:bh:=ev;have U:=η.seq;refine V.a0 (U _ _ _) rfl ?_;unfold mf yW;(repeat (first|apply aO|apply aP|apply aQ|apply wd|refine ax rfl ?_|refine au rfl ?_|(refine ξ λθ I=>?_;simp;(repeat (rw[ε];simp[LQ,LR,Cw,LS]));apply I)));refine W.b0 (.stop ?_);refine V.enable (U _ _ _).here (Nat.succ_pos _) ⟨⟨rfl,rfl,by simp[Frame.enter],rfl⟩,sw,⟨_,rfl⟩,rfl,rfl,rfl⟩ ?_;rw[yG];refine V.a0 (U _ _ _) rfl ?_;refine W.bm ?_;refine W.b0 ?_;refine W.part (A:=[]) Μ [0] [1,2] rfl λθ I=>?_;(try simp);(repeat (rw[ε];simp));apply I;refine W.stop ?_;refine V.conv (U _ _ _).here (sp:=sp) η.spec (by rw[bP];exact id) ⟨rfl,rfl,by simp[Frame.enter],rfl⟩ rfl rfl rfl Gf sx Gg rfl (λο w ω bk=>⟨_,bk.cI⟩) (λφ ο ν=>?_);unfold g8;rw[jf];refine V.z8 η.rel rfl (sp:=sp) η.spec bP (.inl rfl) ⟨⟨rfl,rfl,by simp[Frame.enter],rfl⟩,Ck,⟨_,rfl⟩,rfl,rfl,rfl⟩ λbr bB H1 t1 fv e3 fQ ed κ χ bs cF fD k2 r9 Gr Gs Gt=>?_;rw[gf];obtain rfl:bB=[]:=dk.1 χ.holds.len;have Ζ:=cS br H1 fv e3 fQ ed κ.ext χ.holds bs cF fD k2 r9 Gr Gs Gt;refine V.here (x:=one _) (S:=eL) (B:=[]) (σ:=[]) (m:=0) (nt:=84) ?_ (χ.none (by simp)) _ rfl;refine V.a0 (U _ _ _) rfl ?_;refine W.bm ?_;(repeat (first|apply aO|apply aP|apply aQ|apply wd|refine ax rfl ?_|refine au rfl ?_|(refine ξ λθ I=>?_;simp;(repeat (rw[ε];simp[LQ,LR,Cw,LS]));apply I)));exact .stop (LU η Ζ)
theorem VL (η:kL x s sp) (cS:p0 Q mn x c rest S H s n sp):sB Q mn x c rest S H s (.par n 0 .w4) v 1 (.code (du [0,1,1,1,1,1,0,1,1,1,1] mf)::.inBlock 1::ui) [(0,.z (ptr s 0))]:=by
 letI:bh:=ev;have U:=η.seq;refine V.a0 (U _ _ _) rfl ?_;unfold mf yW
 repeat first|apply aO|apply aP|apply aQ|apply wd
 refine W.b0 ?_;refine W.part (A:=[]) Μ [0,1,2] [3,4,5] rfl λθ I=>?_;(try simp);(repeat (rw[ε];simp));apply I;refine W.stop ?_;refine V.call (U _ _ _) ⟨rfl,rfl,by simp[Frame.enter],rfl⟩ rfl rfl rfl ⟨_,Tryz.func168,rfl,rfl⟩ λbr bB H1 t1 nE κ χ hv=>?_;obtain rfl:=lE (l:=[ptr s 0]) hv;obtain rfl:bB=[]:=dk.1 χ.holds.len;rintro y rfl;refine Gp η id χ.holds λφ ο ν=>.inl λcV bH j2 h6=>?_;have Α:=ν.ie.q9;rw[bP] at Α;obtain⟨Ξ,aa,aM⟩:=Α.fin n 0 (.inr (.inl rfl));have Ο:cu ο=0:=by simp only[cu,Ξ,aM];rfl
 rw[Ο,ho rfl];have v8:=cS.later (κ.ext.trans j2);refine V.here (x:=one _) (m:=0) (nt:=84) ?_ ((χ.put (a:=.z (.int .u64 0)) rfl (.z _)).fs (by simp) h6) _ rfl;refine V.a0 (U _ _ _) rfl ?_;refine W.part (A:=[]) Μ [4,5] [] rfl λθ I=>?_;(try simp);(repeat (rw[ε];simp));(try simp[]);apply I;refine W.bm ?_;(repeat (first|apply aO|apply aP|apply aQ|apply wd|refine ax rfl ?_|refine au rfl ?_|(refine ξ λθ I=>?_;simp;(repeat (rw[ε];simp));apply I)));refine W.b0 (.stop ?_);refine V.enable (U _ _ _).here (Nat.succ_pos _) ⟨⟨rfl,rfl,by simp[Frame.enter],rfl⟩,sw,⟨_,rfl⟩,rfl,rfl,rfl⟩ ?_;rw[yG];refine V.a0 (U _ _ _) rfl ?_;refine W.bm ?_;refine W.b0 ?_;refine W.part (A:=[]) Μ [0] [1,2] rfl λθ I=>?_;(try simp);(repeat (rw[ε];simp));apply I;refine W.stop ?_;refine V.conv (U _ _ _).here (sp:=sp) η.spec (by rw[bP];exact id) ⟨rfl,rfl,by simp[Frame.enter],rfl⟩ rfl rfl rfl Gf sx Gg rfl (λο w ω bk=>⟨_,bk.cI⟩) (λφ ο ν=>?_);unfold g8;rw[jf];refine V.z8 η.rel rfl (sp:=sp) η.spec bP (.inr rfl) ⟨⟨rfl,rfl,by simp[Frame.enter],rfl⟩,Ck,⟨_,rfl⟩,rfl,rfl,rfl⟩ λbr bB H1 t1 fv e3 fQ ed κ χ bs cF fD k2 r9 Gr Gs Gt=>?_;rw[gf];obtain rfl:bB=[]:=dk.1 χ.holds.len;have Ζ:=v8 br H1 fv e3 fQ ed κ.ext χ.holds bs cF fD k2 r9 Gr Gs Gt;refine V.here (x:=one _) (S:=eL) (B:=[]) (σ:=[]) (m:=0) (nt:=84) ?_ (χ.none (by simp)) _ rfl;refine V.a0 (U _ _ _) rfl ?_;refine W.bm ?_;(repeat (first|apply aO|apply aP|apply aQ|apply wd|refine ax rfl ?_|refine au rfl ?_|(refine ξ λθ I=>?_;simp;(repeat (rw[ε];simp));apply I)));exact .stop (LU η Ζ)
theorem VM {a b d:Nat} (h:a<=b) (J:b<7):a<8/\a<7:=by omega
theorem VN {a b:Nat} (h:a<b):¬b=0:=by omega
theorem VO (η:kL x s sp) (cS:p0 Q mn x c rest S H s n sp) {φ:Nat} {ο:aD}:sB Q mn x c rest S H s (.par n 0 .w3) (some (φ,ο)) 1 (.code (du [0,1,1,1,1,1,0,1,1,1,0] mf)::.code (du [0,1,1,1,1,1,0,1,1,1,1] mf)::.inBlock 1::ui) [(0,.z (ptr s 0)),(5,.z (.bool false))]:=by
 letI:bh:=ev;have U:=η.seq;have woken:∀v,sB Q mn x c rest S H s (.par n 0 .w4) v 1 (.code (du [0,1,1,1,1,1,0,1,1,1,1] mf)::.inBlock 1::ui) [(0,.z (ptr s 0))]:=λv=>VL η cS;refine V.a0 (U _ _ _) rfl ?_;unfold mf yW;refine W.b0 ?_;refine W.part (A:=[]) Μ [0,1,2,3] [4] rfl λθ I=>?_;(try simp);(repeat (rw[ε];simp));apply I;refine W.stop ?_;refine V.UL (U _ _ _).here (sp:=sp) η.spec (by rw[bP];exact id) (vs:=[ptr s 1,.bool false]) rfl (λa7 hY=>by rw[yH hY];exact η.still a7 hY) ⟨⟨rfl,rfl,by simp[Frame.enter],rfl⟩,Vi,⟨_,rfl⟩,rfl,rfl,rfl⟩ (λgh ο ν h=>by rw[bP];exact h) (λgh ο ν h=>?_);refine⟨{ο with cn:=ο.cn-1},.par n 0 .w4,rfl,rfl,⟨rfl,rfl,rfl⟩,by rw[bP];exact .wake h,λgV dX=>?_⟩;rw[gf];refine V.a0 (U _ _ _) rfl ?_;refine W.bm ?_;refine W.forget [(0,.z (ptr s 0))] (by simp) (.stop ?_);exact woken _
theorem VP (η:kL x s sp):∀(N φ:Nat) (ο:aD) (S:al) (H:υ),φ<N->ο.toSpec=sp->0<ο.cnt->ο.cnt<=ο.top->ο.wt=0->p0 Q mn x c rest S H s n sp->
  sB Q mn x c rest S H s (.par n 0 .add) (some (φ,ο)) 1 (.code (du [0,1] mf)::.inBlock 1::ui) [(0,.z (ptr s 0)),(2,.z (.int .u64 (cu ο)))]:=by
 letI:bh:=ev;have U:=η.seq;intro N
 induction N with
 | zero=>intro φ ο S H h;exact absurd h (Nat.not_lt_zero _)
 | succ N yP=>
  intro φ ο S H b8 ω z0 LW pa cS;have fN:=Cv η ω;obtain⟨k1,cB⟩:=VM (d:=0) LW fN;have f1:=Cs ο.cnt k1 0 (by decide);have f2:=Ct ο.cnt k1 0 (by decide);have f3:=Cu ο.cnt k1 0 (by decide);have f4:=VH ο.cnt k1;have xe:cu ο=g3 ο.cnt 0:=by rw[sA,pa]
  have bd:¬ο.cnt=0:=VN z0
  have BY:¬(ο.cnt:Int)=0:=λh=>bd (by exact_mod_cast h);rw[<-xe] at f1 f2 f3 f4;have sleep:∀(S H) (φ:Nat) (ο:aD),p0 Q mn x c rest S H s n sp->sB Q mn x c rest S H s (.par n 0 .w3) (some (φ,ο)) 1 (.code (du [0,1,1,1,1,1,0,1,1,1,0] mf)::.code (du [0,1,1,1,1,1,0,1,1,1,1] mf)::.inBlock 1::ui) [(0,.z (ptr s 0)),(5,.z (.bool false))]:=λS H φ ο cS=>VO η cS;have kR:∀(S H v),p0 Q mn x c rest S H s n sp->sB Q mn x c rest S H s (.par n 0 .kR) v 1 (.code (du [0,1] mf)::.inBlock 1::ui) [(0,.z (ptr s 0)),(2,.z (.int .u64 0))]:=λS H v cS=>LV η cS;refine V.a0 (U _ _ _) rfl ?_;unfold mf yW;(repeat (first|apply aO|apply aP|apply aQ|apply wd|refine ax rfl ?_|refine au rfl ?_|(refine ξ λθ I=>?_;simp;(repeat (rw[ε];simp[f2,f3,bd,BY]));apply I)));refine W.b0 ?_;refine W.part (A:=[]) Μ [0,1,2,3,4,5] [6] rfl λθ I=>?_;(try simp);(repeat (rw[ε];simp[f4]));(try simp[f4]);apply I;refine W.stop ?_;refine V.call (U _ _ _) ⟨rfl,rfl,by simp[Frame.enter],rfl⟩ rfl rfl rfl ⟨_,Tryz.func179,rfl,rfl⟩ λbr bB H1 t1 nE κ χ hv=>?_;obtain rfl:=lE (l:=[ptr s 0,.int .u64 (cu ο),.int .u64 (g3 ο.cnt 1)]) hv;obtain rfl:bB=[]:=dk.1 χ.holds.len;rintro y rfl;refine VJ η id χ.holds (λgh fh ν hv cV bH j2 h6=>?_) (λgh fh ν hv=>?_)
  ·have oj:=ν.view φ ο nK
   have aF:gh<N:=by
    rcases Nat.lt_or_ge gh φ with h|h
    ·exact Nat.lt_of_lt_of_le h (Nat.le_of_lt_succ b8)
    ·exact absurd (by rw[oj.2 (Nat.le_antisymm oj.1 h)]) hv
   have v8:=cS.later (κ.ext.trans j2);rw[ho rfl];refine V.here (x:=one _) (m:=0) (nt:=84) ?_ ((χ.put (a:=.z (.bool false)) rfl (.z _)).fs (by simp) h6) _ rfl;refine V.a0 (U _ _ _) rfl ?_;refine W.bm ?_;refine au rfl ?_
   repeat first|apply aO|apply aP|apply aQ|apply wd
   refine W.inLoop ?_;refine W.forget [(0,.z (ptr s 0))] (by simp) ?_
   repeat first|apply aO|apply aP|apply aQ|apply wd
   refine W.b0 ?_;refine W.part (A:=[]) Μ [0,1,2] [3,4] rfl λθ I=>?_;(try simp);(repeat (rw[ε];simp));apply I;refine W.stop ?_;refine V.call (U _ _ _) ⟨rfl,rfl,by simp[Frame.enter],rfl⟩ rfl rfl rfl ⟨_,Tryz.func168,rfl,rfl⟩ λjy jz ic t3 Gu gI eY q1=>?_;obtain rfl:=lE (l:=[ptr s 0]) q1;obtain rfl:jz=[]:=dk.1 eY.holds.len;rintro y rfl;refine Gp η id eY.holds λgV e9 dG=>?_;have eI:=dG.ie.q9;rw[bP] at eI;obtain⟨er,fb,jQ,rT,rU⟩:=eI.add n 0 rfl;have vG:=dG.view gh fh nK;by_cases af:e9.cnt=0
   ·refine .inr ⟨.par n 0 .kR,.thru af,λvZ VQ iK iL m1 jJ=>?_⟩;have Ο:cu e9=0:=by simp only[cu,er,af];rfl
    rw[Ο,ho rfl];have uj:=v8.later (gI.ext.trans m1);refine V.here (x:=one _) (m:=0) (nt:=84) ?_ ((eY.put (a:=.z (.int .u64 0)) rfl (.z _)).fs (by simp) jJ) _ rfl;refine V.a0 (U _ _ _) rfl ?_;refine W.part (A:=[]) Μ [4] [] rfl λθ I=>?_;(try simp);(repeat (rw[ε];simp));(try simp[]);apply I;refine W.bm ?_;refine W.forget [(0,.z (ptr s 0)),(2,.z (.int .u64 0))] (by simp) (.stop ?_);exact kR _ _ _ uj
   ·refine .inl λiK iL m1 jJ=>?_;rw[ho rfl];have uj:=v8.later (gI.ext.trans m1);refine V.here (x:=one _) (m:=0) (nt:=84) ?_ ((eY.put (a:=.z (.int .u64 (cu e9))) rfl (.z _)).fs (by simp) jJ) _ rfl;refine V.a0 (U _ _ _) rfl ?_;refine W.part (A:=[]) Μ [4] [] rfl λθ I=>?_;(try simp);(repeat (rw[ε];simp));(try simp[]);apply I;refine W.bm ?_;refine W.forget [(0,.z (ptr s 0)),(2,.z (.int .u64 (cu e9)))] (by simp) (.stop ?_);exact yP gV e9 iK iL (Nat.lt_of_le_of_lt vG.1 aF) dG.spec (Nat.pos_of_ne_zero af) eI.cnt er uj
  ·have h3:=ν.ie.q9;rw[bP] at h3;obtain⟨er,fb,jQ,rT,rU⟩:=h3.add n 0 rfl;have ni:fh.cnt=ο.cnt:=by rw[xe,sA,er] at hv;simp only[g3] at hv;omega
   refine⟨{fh with wt:=1},.par n 0 .w3,?_,rfl,⟨rfl,rfl,rfl⟩,.HJ (by rw[ni];exact z0),λgV cΟ cV bH j2 h6=>?_⟩
   ·rw[sA];simp only[ni]
   rw[ho rfl];have v8:=cS.later (κ.ext.trans j2);refine V.here (x:=one _) (m:=0) (nt:=84) ?_ ((χ.put (a:=.z (.bool true)) rfl (.z _)).fs (by simp) h6) _ rfl;refine V.a0 (U _ _ _) rfl ?_;refine W.bm ?_;refine ax rfl ?_;(repeat (first|apply aO|apply aP|apply aQ|apply wd|refine ax rfl ?_|refine au rfl ?_|(refine ξ λθ I=>?_;simp;(repeat (rw[ε];simp));apply I)));refine W.b0 ?_;refine W.part (A:=[]) Μ [0,1,2] [3,4] rfl λθ I=>?_;(try simp);(repeat (rw[ε];simp));apply I;refine W.stop ?_;refine V.conv (U _ _ _).here (sp:=sp) η.spec (by rw[bP];exact id) ⟨rfl,rfl,by simp[Frame.enter],rfl⟩ rfl rfl rfl Lu sx Lv rfl (λο w ω bk=>⟨_,bk.Ξ⟩) (λφ ο ν=>?_);unfold g8;rw[jf];refine V.UI η.rel bP (by simp) ⟨⟨rfl,rfl,by simp[Frame.enter],rfl⟩,Vb,⟨_,rfl⟩,rfl,rfl,rfl⟩ ?_;refine V.a0 (U _ _ _) rfl ?_;refine W.bm ?_;(repeat (first|apply aO|apply aP|apply aQ|apply wd|refine ax rfl ?_|refine au rfl ?_|(refine ξ λθ I=>?_;simp;(repeat (rw[ε];simp[f1]));apply I)));refine W.forget [(0,.z (ptr s 0)),(5,.z (.bool false))] (by simp) (.stop ?_);exact sleep _ _ _ _ v8
theorem VR (η:kL x s sp) (ψ:Holds S B σ H) (cS:p0 Q mn x c rest S H s n sp) :
  b4 Tryz.prog Q mn (bb x s (.par n 0 .add) v 0) (Frame.enter Tryz.prog 146 #[ptr s 0] .normal) (c::rest) H:=by
 letI:bh:=ev;have U:=η.seq;refine V.oL (z:=one _) (vs:=[ptr s 0]) Tryz.func146 rfl ψ (by simp[Tryz.ntmps146]) ?_ _ rfl;refine V.a0 (U _ _ _) rfl ?_;(repeat (first|apply aO|apply aP|apply aQ|apply wd|refine ax rfl ?_|refine au rfl ?_|(refine ξ λθ I=>?_;simp;(repeat (rw[ε];simp));apply I)));refine W.b0 (.stop ?_);refine V.disable (U _ _ _).here ⟨⟨rfl,rfl,by simp[Frame.enter],rfl⟩,yK,⟨_,rfl⟩,rfl,rfl,rfl⟩ ?_;rw[yF];refine V.a0 (U _ _ _) rfl ?_;refine W.bm ?_
 repeat first|apply aO|apply aP|apply aQ|apply wd
 refine W.loop ?_
 repeat first|apply aO|apply aP|apply aQ|apply wd
 refine W.b0 ?_;refine W.part (A:=[]) Μ [0,1,2] [3,4] rfl λθ I=>?_;(try simp);(repeat (rw[ε];simp));apply I;refine W.stop ?_;refine V.call (U _ _ _) ⟨rfl,rfl,by simp[Frame.enter],rfl⟩ rfl rfl rfl ⟨_,Tryz.func168,rfl,rfl⟩ λjy jz ic t3 Gu gI eY q1=>?_;obtain rfl:=lE (l:=[ptr s 0]) q1;obtain rfl:jz=[]:=dk.1 eY.holds.len;rintro y rfl;refine Gp η id eY.holds λgV e9 dG=>?_;have eI:=dG.ie.q9;rw[bP] at eI;obtain⟨er,fb,jQ,rT,rU⟩:=eI.add n 0 rfl;by_cases af:e9.cnt=0
 ·refine .inr ⟨.par n 0 .kR,.thru af,λvZ VQ iK iL m1 jJ=>?_⟩;have Ο:cu e9=0:=by simp only[cu,er,af];rfl
  rw[Ο,ho rfl];have uj:=cS.later (gI.ext.trans m1);refine V.here (x:=one _) (m:=0) (nt:=84) ?_ ((eY.put (a:=.z (.int .u64 0)) rfl (.z _)).fs (by simp) jJ) _ rfl;refine V.a0 (U _ _ _) rfl ?_;refine W.part (A:=[]) Μ [4] [] rfl λθ I=>?_;(try simp);(repeat (rw[ε];simp));(try simp[]);apply I;refine W.bm ?_;refine W.forget [(0,.z (ptr s 0)),(2,.z (.int .u64 0))] (by simp) (.stop ?_);exact LV η uj
 ·refine .inl λiK iL m1 jJ=>?_;rw[ho rfl];have uj:=cS.later (gI.ext.trans m1);refine V.here (x:=one _) (m:=0) (nt:=84) ?_ ((eY.put (a:=.z (.int .u64 (cu e9))) rfl (.z _)).fs (by simp) jJ) _ rfl;refine V.a0 (U _ _ _) rfl ?_;refine W.part (A:=[]) Μ [4] [] rfl λθ I=>?_;(try simp);(repeat (rw[ε];simp));(try simp[]);apply I;refine W.bm ?_;refine W.forget [(0,.z (ptr s 0)),(2,.z (.int .u64 (cu e9)))] (by simp) (.stop ?_);exact VP η (gV+1) gV e9 iK iL (Nat.lt_succ_self _) dG.spec (Nat.pos_of_ne_zero af) eI.cnt er uj
end
end Go.TL
namespace Go.TL
open Go.Conc Go.Proofs
open Go.ConcN (sumTo upd sumTo_upd upd_ne upd_same sumTo_congr le_sumTo)
variable [bh]
def cd.v9:cd->ζ->Prop
 | .ok a,b=>a=b
 | .bT p r,b=>p/\r.v9 b
 | .bad,_=>False
def hX (P:Program) {α:Type} (s:Sem α) (a:α):Prop:=∀w,s.run P w=.ok a w/\∀es,s.events P w es=es
section
variable {P:Program} {T:aZ} {α β:Type}
theorem hX.pure (a:α):hX P (Pure.pure a) a:=λw=>⟨by simp,λes=>by simp⟩
theorem hX.bind {s:Sem α} {f:α->Sem β} {a:α} {b:β} (h:hX P s a) (k:hX P (f a) b):hX P (s >>= f) b:=λw=>⟨by simp[(h w).1,(k w).1,Result.andThen],λes=>by simp[(h w).1,(h w).2,(k w).2,Result.evThen]⟩
theorem hX.program:hX P Go.program P:=λw=>⟨by simp,λes=>by simp⟩
theorem hX.underlying {t:TypeId} {d:TypeDesc} (h:P.underlying t=some d):hX P (Go.underlying t) d:=λw=>⟨run_underlying h w,λes=>by simp⟩
theorem hX.sizeOf {t:TypeId} {i:TypeInfo} (hi:P.info? t=some i):hX P (Go.sizeOf t) i.size:=by
 unfold Go.sizeOf Go.typeInfo;refine hX.bind (hX.bind .program ?_) (hX.pure _);show hX P (match P.info? t with|some i=>Pure.pure i|none=>_) i;rw[hi];exact .pure _
theorem VS {op:BinOp} {ty:TypeId} {p q:Operand} {x y v:Value} (h:(qF op x y).v9 (.z v)):hX P (do eqGuard op ty p q x y;binOp op ty x y) v:=by
 unfold qF at h;split at h
 case h_25=>exact h.elim
 case h_1=>
  obtain⟨J,R⟩:=h;cases R;have c0:¬(_:Int)<0:=Int.not_lt.2 J;simp only[eqGuard,binOp,Op.shift,c0,if_false];exact .pure _
 case h_2=>
  obtain⟨J,R⟩:=h;cases R;have c0:¬(_:Int)<0:=Int.not_lt.2 J;simp only[eqGuard,binOp,Op.shift,c0,if_false];exact .pure _
 case h_6=>
  split at h
  ·rename_i e;subst e;obtain⟨J,R⟩:=h;cases R;simp only[eqGuard,binOp,Op.intDiv,J,if_false,ne_eq,not_true_eq_false];exact .pure _
  ·exact h.elim
 case h_7=>
  split at h
  ·rename_i e;subst e;obtain⟨J,R⟩:=h;cases R;simp only[eqGuard,binOp,Op.intDiv,J,if_false,ne_eq,not_true_eq_false];exact .pure _
  ·exact h.elim
 case h_18=>
  obtain⟨J,R⟩:=h;cases R;have c0:¬((_:Int) > IntKind.i64.max):=Int.not_lt.2 J;simp only[eqGuard,binOp,Op.stringOp,c0,if_false];exact .pure _
 all_goals first
  |(cases h;exact .pure _)
  |(split at h
    ·rename_i e;subst e;cases h;simp only[eqGuard,binOp,Op.intArith,Op.intBits,Op.intCmp,ne_eq,not_true_eq_false,if_false];exact .pure _
    ·exact h.elim)
def v' (T:aZ) (env:Φ) (o:Oper):cd:=match o.op with
 | .move x=>.ok (aG env x)
 | .assign x=>.ok (aG env x)
 | .pick c a b=>vq (aG env c) (aG env a) (aG env b)
 | .binOp op _ x y _=>match aG env x,aG env y with
  | .z a,.z b=>qF op a b
  | _,_=>.bad
 | .unOp op _ x=>u' op (aG env x)
 | .convert s d x=>vj T s d (aG env x)
 | .nilCheck x=>match aG env x with
  | .z (.pointer (some a))=>.ok (.z (.pointer (some a)))
  | _=>.bad
 | .fieldAddr ty x f=>match aG env x with
  | .z (.pointer (some ⟨b,o',none⟩))=>match fy T ty f with|some (o,_)=>.ok (.z (.pointer (some ⟨b,o'+o,none⟩)))|none=>.bad
  | _=>.bad
 | _=>.bad
theorem VT (Ζ:bE P T) {env:Φ} {o:Oper} {v:Value} (h:(v' T env o).v9 (.z v)) {ρ:Operand->Value} (mg:∀y u,aG env y=.z u->ρ y=u):hX P (execOp ρ o) (.value v):=by
 have val:∀{s:Sem Value} {u:Value},hX P s u->hX P (do Pure.pure (Next.value (<-s))) (.value u):=λν=>.bind ν (.pure _);unfold v' at h;unfold execOp;split at h<;>rename_i ω<;>first|(rw[ω];simp only)|exact h.elim
 ·rw[mg _ _ h];exact .pure _
 ·rw[mg _ _ h];exact .pure _
 ·rename_i c a b;unfold vq at h;split at h
  ·rename_i bv η;rw[mg _ _ η];refine hX.bind (a:=bv) (hX.pure _) ?_;split at h
   ·rename_i y z ad Ν;cases h;rw[mg _ _ ad,mg _ _ Ν];cases bv<;>exact .pure _
   ·cases bv with
    | true=>rw[mg a v h];exact .pure _
    | false=>rw[mg b v h];exact .pure _
  ·exact h.elim
 ·split at h
  ·rename_i x y U ad;rw[mg _ _ U,mg _ _ ad];exact val (VS h)
  ·exact h.elim
 ·unfold u' at h;split at h
  ·rename_i bv hb;rw[mg _ _ hb];split at h
   ·cases h;exact val (.pure _)
   ·exact h.elim
  ·rename_i k n hb;rw[mg _ _ hb];split at h
   ·cases h;exact val (.pure _)
   ·exact h.elim
  ·exact h.elim
 ·unfold vj at h;split at h
  ·rename_i i j hi γ;split at h
   ·rename_i k kk n hu U;cases h;rw[mg _ _ U];refine val ?_;unfold convert;refine .bind (.underlying (Ζ _ _ hi).1.1) (.bind (.underlying (Ζ _ _ γ).1.1) ?_);rw[hu];exact .pure _
   ·exact h.elim
  ·exact h.elim
 ·split at h
  ·rename_i a U;cases h;rw[mg _ _ U];exact .pure _
  ·exact h.elim
 ·split at h
  ·rename_i b o' U;rw[mg _ _ U];split at h
   ·rename_i dq xH ab;cases h;refine val ?_;unfold fy at ab;split at ab<;>try cases ab
    rename_i i hi;split at ab<;>try cases ab
    rename_i cP hu;split at ab<;>try cases ab
    rename_i x U;split at ab<;>try cases ab
    rename_i cH qG;split at ab<;>try cases ab
    rename_i jq;unfold Instr.fieldAt;refine .bind (.underlying (Ζ _ _ hi).1.1) ?_;rw[hu];simp only[U];refine .bind (a:=⟨b,o',none⟩) (.pure _) ?_;obtain⟨f,j0,nx,_⟩:=(Ζ _ _ qG).2;refine .bind (a:=⟨b,o'+x.offset,none⟩) ?_ (.pure _);unfold fieldPlace;refine .bind (.sizeOf j0) ?_;rw[nx,if_neg jq,rP];exact .pure _
   ·exact h.elim
  ·exact h.elim
end
theorem VU (vs:List Value) {nt:Nat} (Ι:vs.length<=nt):cY eL [] [] (entry 0 (vs.map ζ.z)) (vs.toArray++Array.replicate (nt-vs.length) undef):=by
 have ι:e6 eL [] [] (vs.map ζ.z) vs.toArray:=⟨by simp,λi a v J R=>by
  simp only[List.getElem?_map,List.getElem?_toArray] at J R;rw[R] at J;cases J;exact .z v⟩
 have:=(e5.enter (v5 υ.empty) (m:=0) (nt:=nt) ι (Nat.le_refl _) (by simpa using Ι)).b7;simpa using this
def Gv (P:Program) (mn:Bool) (db:Goroutine->Prop):Prop:=∀g g',hJ g->(∀w,stepG P mn g w=.go g' w #[])->db g'->db g
def Υ (db:Goroutine->Prop) (b:Frame) (cs:List Frame) (nt:Nat) (k:List Item) (env:Φ):Prop:=∀t:Array Value,t.size=nt->cY eL [] [] env t->db (Go.Conc.G (ai b t k) cs)
def lI (T:aZ) (nt:Nat) (ops:Array Oper):List Nat->Φ->(Φ->Prop)->Prop
 | [],env,K=>K env
 | i::is,env,K=>ga ops[i]? λo=>g4 nt o=true/\ga (e7 env ops o) λw=>
   iG w (lI T nt ops is (bX o env .ca) K) (∃v,(v' T env o).v9 (.z v)/\lI T nt ops is (bX o env (.z v)) K)
theorem uk {T:aZ} {nt:Nat} {ops:Array Oper} {env:Φ} {K:Φ->Prop}:lI T nt ops [] env K=K env:=Eq.trans rfl rfl
def um (T:aZ) (nt:Nat) (ops:Array Oper) (is:List Nat) (o:Oper) (env:Φ) (K:Φ->Prop):cd->Prop
 | .ok (.z v)=>lI T nt ops is (bX o env (.z v)) K
 | .bT p (.ok (.z v))=>p/\lI T nt ops is (bX o env (.z v)) K
 | _=>False
theorem VV {T:aZ} {nt:Nat} {ops:Array Oper} {is:List Nat} {o:Oper} {env:Φ} {K:Φ->Prop} {v:Value}:um T nt ops is o env K (.ok (.z v))=lI T nt ops is (bX o env (.z v)) K:=Eq.trans rfl rfl
theorem VW {T:aZ} {nt:Nat} {ops:Array Oper} {is:List Nat} {o:Oper} {env:Φ} {K:Φ->Prop} {v:Value} {p:Prop}:um T nt ops is o env K (.bT p (.ok (.z v)))=(p/\lI T nt ops is (bX o env (.z v)) K):=Eq.trans rfl rfl
theorem VX {T:aZ} {nt:Nat} {ops:Array Oper} {is:List Nat} {o:Oper} {env:Φ} {K:Φ->Prop} {r r':cd} (h:r=r'):um T nt ops is o env K r=um T nt ops is o env K r':=by rw[h]
theorem VY {T:aZ} {nt:Nat} {ops:Array Oper} {is:List Nat} {o:Oper} {env:Φ} {K:Φ->Prop} {r:cd} (h:um T nt ops is o env K r):∃v,r.v9 (.z v)/\lI T nt ops is (bX o env (.z v)) K:=by
 unfold um at h;split at h
 ·exact⟨_,rfl,h⟩
 ·exact⟨_,⟨h.1,rfl⟩,h.2⟩
 ·exact h.elim
theorem gi {T:aZ} {nt:Nat} {ops:Array Oper} {i:Nat} {is:List Nat} {env:Φ} {K:Φ->Prop} (h:ga ops[i]? λo=>g4 nt o=true/\ga (e7 env ops o) λw=>iG w (lI T nt ops is (bX o env .ca) K) (um T nt ops is o env K (v' T env o))):lI T nt ops (i::is) env K:=by
 unfold lI;unfold ga at h ⊢;split at h
 ·exact h.elim
 rename_i o ω;refine⟨h.1,?_⟩
 replace h:=h.2
 split at h
 ·exact h.elim
 rename_i w hw;exact⟨h.1,λe=>VY (h.2 e)⟩
section
variable {P:Program} {T:aZ} {mn:Bool} {db:Goroutine->Prop} {b:Frame} {cs:List Frame} {nt:Nat} {k:List Item} {env:Φ} {ops:Array Oper} {i:Nat} {rest:List Nat} {op:Oper}
variable (fB:Gv P mn db) (hb:b.mode=.run)
include fB hb
theorem Υ.to {Χ:List Item} (ν:∀t w,stepG.exec P mn true (ai b t k) cs none w=.go (Go.Conc.G (ai b t Χ) cs) w #[]) (h:Υ db b cs nt Χ env):Υ db b cs nt k env:=
 λt J R=>fB _ _ ⟨rfl,rfl⟩ (λw=>(h7 hb w).trans (ν t w)) (h t J R)
theorem Υ.skip (h:Υ db b cs nt k env):Υ db b cs nt (.code .skip::k) env:=.to fB hb (λ_ _=>rfl) h
theorem Υ.inBlock {l:Nat} (h:Υ db b cs nt k env):Υ db b cs nt (.inBlock l::k) env:=.to fB hb (λ_ _=>rfl) h
theorem Υ.seq {a c:Code} (h:Υ db b cs nt (.code a::.code c::k) env):Υ db b cs nt (.code (.seq a c)::k) env:=.to fB hb (λ_ _=>rfl) h
theorem Υ.block {l:Nat} {c:Code} (h:Υ db b cs nt (.code c::.inBlock l::k) env):Υ db b cs nt (.code (.block l c)::k) env:=.to fB hb (λ_ _=>rfl) h
theorem Υ.loop {c:Code} (h:Υ db b cs nt (.code c::.inLoop c::k) env):Υ db b cs nt (.code (.loop c)::k) env:=.to fB hb (λ_ _=>rfl) h
theorem Υ.inLoop {c:Code} (h:Υ db b cs nt (.code c::.inLoop c::k) env):Υ db b cs nt (.inLoop c::k) env:=.to fB hb (λ_ _=>rfl) h
theorem Υ.b0 {id:Nat} {ops:Array Oper} (h:Υ db b cs nt (.inRegion ops (idx ops.size [])::k) env):Υ db b cs nt (.code (.region id ops false)::k) env:=.to fB hb (λ_ _=>by rw[idx_eq];rfl) h
theorem Υ.bm {ops:Array Oper} (h:Υ db b cs nt k env):Υ db b cs nt (.inRegion ops []::k) env:=.to fB hb (λ_ _=>rfl) h
theorem Υ.exit {l:Nat} {Χ:List Item} (he:exitTo l k=some Χ) (h:Υ db b cs nt Χ env):Υ db b cs nt (.code (.exit l)::k) env:=by
 refine .to fB hb (λt w=>?_) h;unfold stepG.exec;simp only[ai,he,Option.elim];rfl
theorem Υ.cond {c:Operand} {a e:Code} {v:Bool} (η:aG env c=.z (.bool v)) (h:Υ db b cs nt (.code (if v then a else e)::k) env):Υ db b cs nt (.code (.cond c a e)::k) env:=by
 intro t J R;refine fB _ _ ⟨rfl,rfl⟩ (λw=>?_) (h t J R);rw[h7 hb w];have a6:(ai b t (.code (.cond c a e)::k)).eval c=.bool v:=by rw[xy];exact B8 R η
 unfold stepG.exec;simp only[ai] at a6 ⊢;rw[a6];rfl
theorem Υ.lJ {c:Operand} {a e:Code} (η:aG env c=.z (.bool true)) (h:Υ db b cs nt (.code a::k) env):Υ db b cs nt (.code (.cond c a e)::k) env:=.cond fB hb η h
theorem Υ.lK {c:Operand} {a e:Code} (η:aG env c=.z (.bool false)) (h:Υ db b cs nt (.code e::k) env):Υ db b cs nt (.code (.cond c a e)::k) env:=.cond fB hb η h
theorem Gw {t:Array Value} (h:cY eL [] [] env t) (hd:g4 nt op=true) (Η:t.size=nt) {a:ζ} {v:Value} (κ:ah eL [] [] a v):(put op t v).size=nt/\cY eL [] [] (bX op env a) (put op t v):=⟨(pA h hd Η κ).2,(pA h hd Η κ).1⟩
theorem Υ.unwanted (ω:ops[i]?=some op) (hw:e7 env ops op=some false) (hd:g4 nt op=true) (h:Υ db b cs nt (.inRegion ops rest::k) (bX op env .ca)):Υ db b cs nt (.inRegion ops (i::rest)::k) env:=by
 intro t J R;obtain⟨s1,s2⟩:=Gw (b:=b) fB hb R hd J (a:=.ca) (v:=undef) (.ca _);refine fB _ _ ⟨rfl,rfl⟩ (λw=>?_) (h _ s1 s2);rw[h7 hb,<-ho ω];have s0:((ops[i]?).map (Region.wanted · (yielded ops t))).getD false=false:=by simp[ω,iY R hw]
 unfold stepG.exec;simp only[ai,s0];rfl
theorem Υ.opn (Ζ:bE P T) (bZ:b.roundOf=none) (Α:b.kind≠.early) (ω:ops[i]?=some op) (hw:e7 env ops op=some true) (hd:g4 nt op=true) {v:Value} (hv:(v' T env op).v9 (.z v)) (h:Υ db b cs nt (.inRegion ops rest::k) (bX op env (.z v))):Υ db b cs nt (.inRegion ops (i::rest)::k) env:=by
 intro t J R;obtain⟨s1,s2⟩:=Gw (b:=b) fB hb R hd J (a:=.z v) (v:=v) (.z v);refine fB _ _ ⟨rfl,rfl⟩ (λw=>?_) (h _ s1 s2);have ν:=VT Ζ hv (ρ:=a8 t) λy u ad=>B8 R ad;rw[fM hb bZ,fM hb bZ,<-sr,stepG_value (a:=⟨t,b.defers⟩) ω (iY R hw) Α (by rw[kJ];exact(ν w).1)];unfold listed;rw[kJ,(ν w).2,seen_none]
theorem Υ.part (Ζ:bE P T) (bZ:b.roundOf=none) (Α:b.kind≠.early) (is mJ:List Nat) {l:List Nat} (Β:l=is++mJ) (h:∀θ:Φ->Prop,(∀env,Υ db b cs nt (.inRegion ops mJ::k) env->θ env)->lI T nt ops is env θ):Υ db b cs nt (.inRegion ops l::k) env:=by
 subst Β;have key:∀(is:List Nat) (env:Φ),lI T nt ops is env (λenv=>Υ db b cs nt (.inRegion ops mJ::k) env)->Υ db b cs nt (.inRegion ops (is++mJ)::k) env:=by
  intro is
  induction is with
  | nil=>intro env h;exact h
  | cons i is Γ=>
   intro env h;unfold lI ga at h;split at h
   ·exact h.elim
   rename_i o ω;obtain⟨hd,h⟩:=h;split at h
   ·exact h.elim
   rename_i w hw;cases w with
   | false=>exact .unwanted fB hb ω hw hd (Γ _ (h.1 rfl))
   | true=>
    obtain⟨v,J,R⟩:=h.2 rfl;exact .opn fB hb Ζ bZ Α ω hw hd J (Γ _ R)
 exact key is env (h _ λ_ h=>h)
theorem Υ.region (Ζ:bE P T) (bZ:b.roundOf=none) (Α:b.kind≠.early) {id:Nat} (h:∀θ:Φ->Prop,(∀env,Υ db b cs nt k env->θ env)->lI T nt ops (idx ops.size []) env θ):Υ db b cs nt (.code (.region id ops false)::k) env:=by
 refine .b0 fB hb (.part fB hb Ζ bZ Α (idx ops.size []) [] (by simp) λθ I=>h θ λenv Ψ=>I env (.bm fB hb Ψ))
theorem Υ.Cg (bG:lD b ops i op) (hw:e7 env ops op=some true) (hd:g4 nt op=true) {f:FuncId} {args:Array Operand} {dI:Array TypeId} (Θ:op.op=.call ⟨.value (.func f),args,dI⟩) {v:Value} (he:Entry P f (λ_=>pure v)) (h:Υ db b cs nt (.inRegion ops rest::k) (bX op env (.z v))):Υ db b cs nt (.inRegion ops (i::rest)::k) env:=by
 intro t J R;obtain⟨s1,s2⟩:=Gw (b:=b) fB hb R hd J (a:=.z v) (v:=v) (.z v);exact fB _ _ ⟨rfl,rfl⟩ (λw=>B7 he bG (iY R hw) Θ (vs:=args.map (a8 t)) rfl (by simp) (by simp) (by simp)) (h _ s1 s2)
theorem Υ.F7 (bG:lD b ops i op) (hw:e7 env ops op=some true) (pB:op.dst=none) {f:FuncId} {dI:Array TypeId} (Θ:op.op=.defer ⟨.value (.func f),#[],dI⟩)
  (h:Υ db {b with defers:=Go.Conc.dcall f #[]::b.defers} cs nt (.inRegion ops rest::k) env):Υ db b cs nt (.inRegion ops (i::rest)::k) env:=by
 intro t J R;refine fB _ (Go.Conc.G (ai {b with defers:=Go.Conc.dcall f #[]::b.defers} t (.inRegion ops rest::k)) cs) ⟨rfl,rfl⟩ (λw=>?_) (h t J R);rw[fM bG.run bG.ro,stepG_defer (a:=⟨t,b.defers⟩) bG.op (iY R hw) bG.kd Θ];have:(⟨t,Go.Conc.dcall f #[]::b.defers⟩:_root_.Go.Act).put op.dst undef=⟨t,Go.Conc.dcall f #[]::b.defers⟩:=by rw[pB];rfl
 simp only[Array.map_empty,List.map_toArray,List.map_nil];rw[this,fM (b:={b with defers:=Go.Conc.dcall f #[]::b.defers}) bG.run bG.ro];rfl
theorem Υ.call (bG:lD b ops i op) (hw:e7 env ops op=some true) {args:Array Operand} {dI:Array TypeId} {g:FuncId} (Θ:op.op=.call ⟨.value (.func g),args,dI⟩) {vs:List Value} (oJ:yC env args vs) {fn:Func} {body:Code} (cA:P.funcs[g]?=some fn) (tp:(fn.name == "runtime.NumGoroutine")=false) (l7:fn.body=some body) (Ι:vs.length<=fn.ntmps)
  (h:∀t:Array Value,t.size=nt->cY eL [] [] env t->Υ db (Frame.enter P g vs.toArray .normal) (ai b t (.inRegion ops (i::rest)::k)::cs) fn.ntmps [.code body] (entry 0 (vs.map ζ.z))):Υ db b cs nt (.inRegion ops (i::rest)::k) env:=by
 intro t J R;have aN:=h t J R (vs.toArray++Array.replicate (fn.ntmps-vs.length) undef) (by simp;omega) (VU vs Ι);rw[show vs.toArray++Array.replicate (fn.ntmps-vs.length) undef=vs.toArray++Array.replicate (fn.ntmps-vs.toArray.size) undef by simp,<-oz cA l7] at aN;refine fB _ _ ⟨rfl,rfl⟩ (λw=>?_) aN;have jS:(fn.name == "runtime.NumGoroutine")=false:=tp;have Bm:fn.body.isNone=false:=by rw[l7];rfl
 have ι:(execOp (a8 t) op).run P w=.ok (.enter g vs.toArray) w/\(execOp (a8 t) op).events P w #[]=#[]:=by
  have e:execOp (a8 t) op=callFunc g vs.toArray:=by
   unfold execOp;rw[Θ];have:args.map (a8 t)=vs.toArray:=oJ.a8 R;simp only[resolve];rw[this];simp[Deferred.ofValue,Go.TL.a8,invoke]
  rw[e];unfold callFunc;have J:¬fn.name = "runtime.NumGoroutine" := by simpa using jS
  simp[cA,J,l7]
 rw[fM bG.run bG.ro,stepG_enter (a:=⟨t,b.defers⟩) bG.op (iY R hw) bG.kd (by rw[kJ];exact ι.1)];unfold listed;rw[kJ,ι.2,seen_none]
theorem Υ.q6 (bZ:b.roundOf=none) (eh:b.defers=[]) (fW:b.kind=.normal) {fn:Func} (cA:P.funcs[b.fn]?=some fn) {d:Nat} (eB:fn.results=#[.tmp d]) {v:Value} (hv:aW env d=.z v) {c:Frame}
  (h:db (Go.Conc.G (c.finish v) cs)):Υ db b (c::cs) nt (.code .ret::k) env:=by
 intro t J R;have kp:t.getD d undef=v:=by
  have:=R d;rw[hv] at this;generalize t.getD d undef=u at this;cases this;rfl
 refine fB _ (Go.Conc.G {ai b t (.code .ret::k) with mode:=.returning} (c::cs)) ⟨rfl,rfl⟩ (λw=>?_) (fB _ _ ⟨rfl,rfl⟩ (λw=>?_) h)
 ·rw[h7 hb];unfold stepG.exec;simp only[ai,bZ];rfl
 ·rw[fM hb bZ,stepG_leave (a:=⟨t,b.defers⟩) fW eh cA (results_tmp eB _ P w) (events_results_tmp eB _ _),kp]
theorem Υ.Cf (bZ:b.roundOf=none) (eh:b.defers=[]) (fW:b.kind=.normal) {fn:Func} (cA:P.funcs[b.fn]?=some fn) (eB:fn.results=#[]) {c:Frame}
  (h:db (Go.Conc.G (c.finish (.tuple #[])) cs)):Υ db b (c::cs) nt [] env:=by
 intro t J R;refine fB _ (Go.Conc.G {ai b t [] with mode:=.returning} (c::cs)) ⟨rfl,rfl⟩ (λw=>?_) (fB _ _ ⟨rfl,rfl⟩ (λw=>?_) h)
 ·rw[h7 hb];unfold stepG.exec;simp only[ai,bZ];rfl
 ·rw[fM hb bZ,stepG_leave (a:=⟨t,b.defers⟩) fW eh cA (Go.results_none eB _ P w) (Go.Conc.events_results_none eB _ _)]
end
attribute [congr] VX
attribute [simp] uk VV VW v'
def jg (P:Program) (Q:Value->Prop) (mn:Bool) (y:aK) (g:Goroutine):Prop:=hJ g/\Goes P Q mn g {y with G:=υ.empty}
def j6 (P:Program) (d:Nat) (g:Goroutine):Prop:=∃n,QuitsD P n d g
theorem ba {P:Program} {Q:Value->Prop} {mn:Bool} {y:aK} (U:eu y):Gv P mn (jg P Q mn y):=λg g' J R ς=>⟨J,Quiet.goes (.cons J R (.nil _)) U ς.1 ς.2⟩
theorem dD {P:Program} {d:Nat}:Gv P false (j6 P d):=λg g' J R ⟨n,ς⟩=>⟨n+1,.ctl J.1 R ς⟩
section
variable {P:Program} {Q:Value->Prop} {mn:Bool} {y:aK} {b:Frame} {cs:List Frame} {nt:Nat} {k:List Item} {env:Φ}
variable {ops:Array Oper} {i:Nat} {rest:List Nat} {op:Oper} {f:FuncId} {e:Array Value->Sem Value} {args:Array Operand} {vs:List Value}
theorem Υ.leaves {d:Nat} (ι:y.rel=true) (Ο:∀s,Gone (y.tok s)) (hd:y.deaf=d) (h:Υ (j6 P d) b cs nt k env):Υ (jg P Q false y) b cs nt k env:=λt J R=>by
 obtain⟨n,Ι⟩:=h t J R;subst hd;exact⟨⟨rfl,rfl⟩,Goes.quits n ι Ο Ι⟩
theorem Υ.disable (U:eu y) (h:gd P b ops i op f (λ_=>do mark .disable;pure Extern.Race.none_) args env [] nt) (Α:Υ (jg P Q mn {y with deaf:=y.deaf+1}) b cs nt (.inRegion ops rest::k) (bX op env mZ)):Υ (jg P Q mn y) b cs nt (.inRegion ops (i::rest)::k) env:=λt J R=>by
 obtain⟨s2,s1⟩:=pA R h.dst J (a:=mZ) (v:=.tuple #[]) (.z _);exact⟨⟨rfl,rfl⟩,Goes.step U.ok (.inr ⟨⟨rfl,rfl⟩,.inr (.inl ⟨Go.Conc.G (ai b (put op t (.tuple #[])) (.inRegion ops rest::k)) cs,⟨rfl,rfl⟩,.inl λw _=>
  ⟨h.step R (B9 .disable) (Ca .disable _) (pR (by simp)),(Α _ s1 s2).2⟩⟩)⟩)⟩
def Gx (P:Program) (Q:Value->Prop) (mn:Bool) (y:aK) (b:Frame) (cs:List Frame) (nt:Nat) (ops:Array Oper) (rest:List Nat) (k:List Item) (op:Oper) (env:Φ) (s φ:Nat) (ο:aD) (v:Value):Prop:=
 Υ (jg P Q mn {y with view:=upd y.view s (some (φ,ο))}) b cs nt (.inRegion ops rest::k) (bX op env (.z v))
def Cx (P:Program) (Q:Value->Prop) (mn:Bool) (y:aK) (b:Frame) (cs:List Frame) (nt:Nat) (ops:Array Oper) (rest:List Nat) (k:List Item) (op:Oper) (env:Φ) (s φ:Nat) (ο:aD) (v:Value) (o':aD) (t':Tok):Prop:=
 Act ο (y.tok s) o' t'/\∀b1,b1<φ->Υ (jg P Q mn {y with tok:=upd y.tok s t',view:=upd y.view s (some (b1,o'))}) b cs nt (.inRegion ops rest::k) (bX op env (.z v))
theorem Υ.ext (U:eu y) {s:Nat} {sp:Spec} (bF:y.spec s=some sp) (cG:¬fi (y.tok s)) (h:gd P b ops i op f e args env vs nt)
  (aN:∀(w:World) (φ:Nat) (ο:aD),Seen y s sp φ ο->dF s ο w->
   (∃v w' fx,(e vs.toArray).run P w=.ok v w'/\(e vs.toArray).events P w #[⟨.mark (Mark.extern f),false,true⟩]=#[⟨.mark (Mark.extern f),false,true⟩]++fx/\(∀y∈fx,y.sync=true/\∀g,y.loc≠.mark (Mark.extern g))/\
    e0 (λΡ _=>dS s sp Ρ) (λ_=>False) w w'/\m9 s sp y.deaf fx/\
    ((dF s ο w'/\Gx P Q mn y b cs nt ops rest k op env s φ ο v)\/∃o' t',dF s o' w'/\Cx P Q mn y b cs nt ops rest k op env s φ ο v o' t'))) :
  Υ (jg P Q mn y) b cs nt (.inRegion ops (i::rest)::k) env:=by
 obtain⟨dI,Θ⟩:=h.call;intro t J R;refine⟨⟨rfl,rfl⟩,Goes.step U.ok (.inr ⟨⟨rfl,rfl⟩,.inr (.inr (.inr (.inl ⟨s,sp,bF,cG,λw φ ο ab hv ω bk w7 F3=>?_⟩)))⟩)⟩;obtain⟨v,w',fx,a1,bg,cr,fX,hI,m7⟩:=aN w φ ο ⟨ω,w7,F3⟩ bk;have cj:=B7 (mn:=mn) (cs:=cs) (rest:=rest) (k:=k) h.mL h.at_ (iY R h.want) Θ (h.yD.a8 R) a1 bg cr;refine .inl ?_;rw[cj];obtain⟨s2,s1⟩:=pA R h.dst J (a:=.z v) (v:=v) (.z _);refine⟨⟨rfl,rfl⟩,fX,hI,?_⟩;rcases m7 with⟨aF,aV⟩|⟨o',t',aF,aV,fY⟩
 ·exact .inl ⟨aF,(aV _ s1 s2).2⟩
 ·exact .inr ⟨o',t',aV,aF,.inl (K8 h.mL h.at_ Θ),λb1 dX=>(fY b1 dX _ s1 s2).2⟩
section
variable {s:Nat} {sp:Spec} (U:eu y) (hd:0<y.deaf) (bF:y.spec s=some sp) (cG:¬fi (y.tok s))
include U hd bF cG
theorem Υ.F4 (h:gd P b ops i op f (Extern.Atomic.loadT (.int .u64)) args env [.pointer (some ⟨s,0,none⟩)] nt)
  (c9:∀φ ο,Seen y s sp φ ο->Gx P Q mn y b cs nt ops rest k op env s φ ο (.int .u64 (cu ο))):Υ (jg P Q mn y) b cs nt (.inRegion ops (i::rest)::k) env:=by
 refine .ext U bF cG h λw φ ο ν bk=>?_;have η:=bk.cI;refine⟨.int .u64 (cu ο),w,#[⟨.cell ⟨s,0,none⟩,false,true⟩],?_,?_,pV (pU _ false),e0.refl _ _ _,pS (.inl rfl) hd (pU _ false),.inl ⟨bk,c9 φ ο ν⟩⟩
 ·change Sem.run P (do Extern.Atomic.read (.int .u64) (<-asAddr (.pointer (some _)))) w=_;simp[Extern.Atomic.read,asAddr,η]
 ·change Sem.events P (do Extern.Atomic.read (.int .u64) (<-asAddr (.pointer (some _)))) w _=_;simp[Extern.Atomic.read,asAddr,η,events_load]
theorem Υ.F5 {d:Int} (h:gd P b ops i op f (Extern.Atomic.update (Op.intArith .add) .u64 true) args env [.pointer (some ⟨s,0,none⟩),.int .u64 d] nt)
  (c9:∀φ ο,Seen y s sp φ ο->∃o' t',cu o'=IntKind.u64.wrap (cu ο+d)/\o'.cn=ο.cn/\pW ο o'/\Cx P Q mn y b cs nt ops rest k op env s φ ο (.int .u64 (cu o')) o' t') :
  Υ (jg P Q mn y) b cs nt (.inRegion ops (i::rest)::k) env:=by
 refine .ext U bF cG h λw φ ο ν bk=>?_;have η:=bk.cI;have Ν:=bk.su 0;obtain⟨o',t',J,R,ς,Κ⟩:=c9 φ ο ν;rw[J] at Κ;refine⟨_,_,_,run_add_entry η Ν,(events_add_entry η Ν _).trans rfl,pV (pT ⟨s,0,none⟩),bk.vV _,pS (.inl rfl) hd (pT ⟨s,0,none⟩),.inr ⟨o',t',bk.vU ς.aI ς.g ς.w ?_,Κ⟩⟩;rw[J,R];rfl
theorem Υ.VZ {d:Int} (h:gd P b ops i op f Extern.Atomic.storeT args env [.pointer (some ⟨s,0,none⟩),.int .u64 d] nt)
  (c9:∀φ ο,Seen y s sp φ ο->∃o' t',cu o'=d/\o'.cn=ο.cn/\pW ο o'/\Cx P Q mn y b cs nt ops rest k op env s φ ο (.tuple #[]) o' t') :
  Υ (jg P Q mn y) b cs nt (.inRegion ops (i::rest)::k) env:=by
 refine .ext U bF cG h λw φ ο ν bk=>?_;have η:=bk.cI;have Ν:=bk.su 0;obtain⟨o',t',J,R,ς,Κ⟩:=c9 φ ο ν;refine⟨.tuple #[],w.setCell ⟨s,0,none⟩ (.int .u64 d),#[⟨.cell ⟨s,0,none⟩,true,true⟩],?_,?_,pV (pU _ true),bk.vV _,pS (.inl rfl) hd (pU _ true),.inr ⟨o',t',bk.vU ς.aI ς.g ς.w (by rw[J,R];rfl),Κ⟩⟩
 ·change Sem.run P (do
   store (<-asAddr (.pointer (some _))) (.int .u64 d) .atomic
   pure Extern.Atomic.none_) w=_
  simp[asAddr,η,Ν,run_store P w _ (.int .u64 d) .atomic rfl,Result.andThen,Extern.Atomic.none_]
 ·change Sem.events P (do
   store (<-asAddr (.pointer (some _))) (.int .u64 d) .atomic
   pure Extern.Atomic.none_) w _=_
  simp[asAddr,η,Ν,events_store P w _ _ (.int .u64 d) .atomic rfl]
end
section
variable {s:Nat} {sp:Spec} (U:eu y) (bF:y.spec s=some sp) (cG:¬fi (y.tok s))
include U bF cG
theorem Υ.V0 (af:vs[0]?=some (.pointer (some ⟨s,1,none⟩))) (h:gd P b ops i op f Extern.Sync.semrelease args env vs nt)
  (c9:∀φ ο,Seen y s sp φ ο->ο.cn<1000/\∃o' t',cu o'=cu ο/\o'.cn=ο.cn+1/\pW ο o'/\Cx P Q mn y b cs nt ops rest k op env s φ ο (.tuple #[]) o' t') :
  Υ (jg P Q mn y) b cs nt (.inRegion ops (i::rest)::k) env:=by
 refine .ext U bF cG h λw φ ο ν bk=>?_;have η:=bk.Ξ;obtain⟨ar,o',t',J,R,ς,Κ⟩:=c9 φ ο ν;refine⟨_,_,_,Lh af η (bk.su 1),Li af η (bk.su 1) _,semEvents_sync _,bk.vV _,Ce (.inl rfl),.inr ⟨o',t',bk.vU ς.aI ς.g ς.w ?_,Κ⟩⟩;rw[J,R,show IntKind.u32.wrap (((ο.cn:Nat):Int)+1)=((ο.cn+1:Nat):Int) by simp only[IntKind.wrap_u32];omega];rfl
end
theorem LX {t:Array Value} (hb:b.mode=.run) (bZ:b.roundOf=none) (eh:b.defers=[Go.Conc.dcall f #[]]) (fW:b.kind=.normal) {fn:Func} (cA:P.funcs[b.fn]?=some fn) (eB:fn.results=#[]) (he:Entry P f (λ_=>do mark .enable;pure Extern.Race.none_)) {c:Frame}
  (h:j6 P 0 (Go.Conc.G (c.finish (.tuple #[])) cs)):j6 P 1 (Go.Conc.G {ai b t k with mode:=.returning} (c::cs)):=by
 obtain⟨cΡ,Δ,Ε,a3,cg,eF⟩:=he;obtain⟨n,Ι⟩:=h;rw[fM hb bZ];refine⟨n+1+1,QuitsD.unwind_mark (a:=⟨t,b.defers⟩) (ds:=[]) .enable rfl (by simp) eh Δ Ε a3 cg eF ?_⟩;exact .ctl rfl (λw=>stepG_leave (a:=⟨t,[]⟩) fW rfl cA (Go.results_none eB _ P w) (Go.Conc.events_results_none eB _ _)) Ι
theorem Υ.Gq (hb:b.mode=.run) (bZ:b.roundOf=none) (eh:b.defers=[Go.Conc.dcall f #[]]) (fW:b.kind=.normal) {fn:Func} (cA:P.funcs[b.fn]?=some fn) (eB:fn.results=#[]) (he:Entry P f (λ_=>do mark .enable;pure Extern.Race.none_)) {c:Frame}
  (h:j6 P 0 (Go.Conc.G (c.finish (.tuple #[])) cs)):Υ (j6 P 1) b (c::cs) nt (.code .ret::k) env:=λt _ _=>by
 refine dD _ (Go.Conc.G {ai b t (.code .ret::k) with mode:=.returning} (c::cs)) ⟨rfl,rfl⟩ (λw=>?_) (LX hb bZ eh fW cA eB he h);rw[h7 hb];unfold stepG.exec;simp only[ai,bZ];rfl
theorem Υ.V1 (hb:b.mode=.run) (bZ:b.roundOf=none) (eh:b.defers=[Go.Conc.dcall f #[]]) (fW:b.kind=.normal) {fn:Func} (cA:P.funcs[b.fn]?=some fn) (eB:fn.results=#[]) (he:Entry P f (λ_=>do mark .enable;pure Extern.Race.none_)) {c:Frame}
  (h:j6 P 0 (Go.Conc.G (c.finish (.tuple #[])) cs)):Υ (j6 P 1) b (c::cs) nt [] env:=λt _ _=>by
 refine dD _ (Go.Conc.G {ai b t [] with mode:=.returning} (c::cs)) ⟨rfl,rfl⟩ (λw=>?_) (LX hb bZ eh fW cA eB he h);rw[h7 hb];unfold stepG.exec;simp only[ai,bZ];rfl
end
def wa (x:aK):aK:={x with ao:=λ_=>none,rel:=true}
theorem V.DY {P:Program} {Q:Value->Prop} {x:aK} {b:Frame} {cs:List Frame} {nt:Nat} {o:Base} {k:List Item} {env:Φ} {ops:Array Oper} {i:Nat} {rest:List Nat} {op:Oper} {f:FuncId} {args:Array Operand} (U:x.rel=false) {s n:Nat} {sp:Spec} {mu:kg} {v:Option (Nat×aD)} (bF:x.spec s=some sp) (ry:mu=.done\/(mu=.idle/\sp.aI=none)) (cG:∀a7,a7≠s->fi (x.tok a7)) (dQ:sp.D n υ.empty)
  (h:gd P b ops i op f (Extern.Race.marked .releaseMerge) args env [.pointer (some ⟨s,0,none⟩)] nt) (he:∀p∈bX op env mZ,∃v,p.2=ζ.z v)
  (Α:Υ (jg P Q false (bb (wa x) s (.ch n mu .rel) none 0)) b cs nt (.inRegion ops rest::k) (bX op env mZ)):V P Q false (one (bb x s (.ch n mu .work) v 0)) b cs nt o (.inRegion ops (i::rest)::k) env []:=by
 intro S B H t κ χ y ad;cases ad;have jA:=χ.put h.dst (a:=mZ) (v:=.tuple #[]) (.z _);have Ο:=(Α _ jA.size (yR he jA.b7)).2;refine Goes.step (eu.ok (.inl U)) (.inr ⟨⟨rfl,rfl⟩,.inr (.inr (.inr (.inr (.inr (.inr (.inl ⟨s,sp,n,mu,Go.Conc.G (ai b (put op t (.tuple #[])) (.inRegion ops rest::k)) cs,υ.empty,bF,bP (v:=v) (d:=0),ry,λa7 hY=>by
  rw[show({bb x s (.ch n mu .work) v 0 with G:=H}:aK).tok a7=(bb x s (.ch n mu .work) v 0).tok a7 from rfl,yH hY];exact cG a7 hY,rfl,⟨rfl,rfl⟩,U,λw _=>
  h.step χ.b7 (vR .releaseMerge _) (vS .releaseMerge _ _) (pR (by simp)),⟨λb o v p η=>(by cases η),λb y η=>(by cases η),λb y η=>(by cases η)⟩,dQ,?_⟩))))))⟩)
 have e:({({bb x s (.ch n mu .work) v 0 with G:=H}:aK) with G:=υ.empty,ao:=λ_=>none,tok:=upd ({bb x s (.ch n mu .work) v 0 with G:=H}:aK).tok s (.ch n mu .rel),view:=upd ({bb x s (.ch n mu .work) v 0 with G:=H}:aK).view s none,rel:=true}:aK)={bb (wa x) s (.ch n mu .rel) none 0 with G:=υ.empty}:=by
  unfold bb wa;simp only[F8]
 exact e▸Ο
end Go.TL
