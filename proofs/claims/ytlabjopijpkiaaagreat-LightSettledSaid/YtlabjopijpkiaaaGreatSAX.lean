import Derived.Test.YtlabjopijpkiaaaGreatSAW
set_option maxHeartbeats 16000000
set_option maxRecDepth 20000
set_option linter.unusedSectionVars false
set_option linter.unusedSimpArgs false
set_option linter.unusedVariables false
namespace Go.TL
open Go.Conc Go.Proofs
open Go.ConcN (sumTo upd sumTo_upd upd_ne upd_same sumTo_congr le_sumTo)
structure l3 (x:aV) (s:Nat) (sp:Spec):Prop where
 rel:x.rel=false
 aF:x.aF=λ_=>none
 spec:x.spec s=some sp
 top:sp.top<7
 still:∀bq,bq≠s->nf (x.tok bq)
theorem l3.seq {x:aV} {s:Nat} {sp:Spec} (h:l3 x s sp):∀t v d,@Seq ep (one (bw x s t v d)):=λt v d=>@Seq.uE ep _ trivial h.rel h.aF
abbrev hS (c w:Nat):Int:=(c:Int)*4294967296+w
theorem EH:∀c<8,∀w<2,eS .u64 (hS c w) 2147483648=0:=by decide +kernel
theorem EI:∀c<8,∀w<2,IntKind.i32.wrap ((hS c w).fdiv (2 ^ min 32 IntKind.u64.bits))=c:=by decide +kernel
theorem EJ:∀c<8,∀w<2,IntKind.u32.wrap (eS .u64 (hS c w) 2147483647)=w:=by decide +kernel
theorem aδ:∀c<7,∀w<2,IntKind.u64.wrap (hS c w+4294967296)=hS (c+1) w:=by decide +kernel
theorem aε:∀c<8,∀w<2,0<c->IntKind.u64.wrap (hS c w+18446744069414584320)=hS (c-1) w:=by decide +kernel
theorem aζ:∀c<8,IntKind.u64.wrap (hS c 0+1)=hS c 1:=by decide +kernel
theorem PE:IntKind.u64.wrap 1=1:=by decide
theorem PF:IntKind.u64.wrap (2 ^ min 32 IntKind.u64.bits)=4294967296:=by decide
theorem I':IntKind.i32.wrap 1=1:=by decide
theorem uK (ς:aN):cM ς=hS ς.cnt ς.wt:=rfl
section
variable {Q:Value->Prop} {mn:Bool} {x:aV} {c:Frame} {rest:List Frame} {S:aB} {B:aR} {σ:List Row} {H:Α} {s k:Nat} {sp:Spec} {v:Option (Nat×aN)} {t:Tok}
theorem EK (ζ:l3 x s sp) {ς:aN} (h:ς.toSpec=sp):ς.top<7:=by have:=ζ.top;rw[show ς.top=sp.top by rw[<-h]];exact this
def yi (Q:Value->Prop) (mn:Bool) (x:aV) (c:Frame) (rest:List Frame) (S:aB) (H:Α) (r:Value):Prop:=
 ∀(ax:aB) (H':Α),Ext S [] H ax [] H'->Holds ax [] [] H'->cn Tryz.prog Q mn x (c.finish r) rest H'
theorem aη (ζ:l3 x s sp) (cH:¬fU t) {d:Int} (Β:Holds S B σ H)
  (dk:∀φ ς,Seen (bw x s t v 1) s sp φ ς->∃o' t',cM o'=IntKind.u64.wrap (cM ς+d)/\o'.cE=ς.cE/\rG ς o'/\Act ς t o' t'/\∀cl,cl<φ->yi Q mn (bw x s t' (some (cl,o')) 1) c rest S H (.int .u64 (cM o'))) :
  cn Tryz.prog Q mn (bw x s t v 1) (Frame.enter Tryz.prog 166 #[ptr s 0,.int .u64 d] .normal) (c::rest) H:=by
 letI:bm:=ep;have U:=ζ.seq;refine V.qt (z:=one _) (vs:=[ptr s 0,.int .u64 d]) Tryz.func166 rfl Β (by simp[Tryz.ntmps166]) ?_ _ rfl;refine V.bh (U _ _ _) rfl ?_;(repeat (first|apply aZ|apply wb|apply a2|apply wd|refine aj rfl ?_|refine ah rfl ?_|(refine ν λη I=>?_;simp;(repeat (rw[δ];simp));apply I)));refine W.cj ?_;refine W.part (A:=[]) Ι [0,1,2,3] [4,5] rfl λη I=>?_;(try simp);(repeat (rw[δ];simp));apply I;refine W.stop ?_;refine V.IQ (U _ _ _).here (Nat.succ_pos _) (sp:=sp) ζ.spec (by rw[b2];exact cH) ⟨⟨rfl,rfl,by simp[Frame.enter],rfl⟩,Ph,⟨_,rfl⟩,rfl,rfl,rfl⟩ (λφ ς ο=>?_);obtain⟨o',t',J,γ,π,Μ,aA⟩:=dk φ ς ο;refine⟨o',t',J,γ,π,by rw[b2];exact Μ,λcl eg=>?_⟩;rw[gT];refine V.bh (U _ _ _) rfl ?_;refine W.part (A:=[]) Ι [5] [] rfl λη I=>?_;(try simp);(repeat (rw[δ];simp));(try simp[]);apply I;refine W.bF (.stop ?_);refine V.s5 (U _ _ _) rfl rfl rfl rfl Tryz.func166 rfl rfl λbJ bO H1 ξ jy=>?_;obtain rfl:bO=[]:=dp.1 jy.len;rintro y rfl;exact aA cl eg bJ H1 ξ.ext jy
theorem Ja (ζ:l3 x s sp) (cH:¬fU t) (Β:Holds S B σ H)
  (dk:∀φ ς,Seen (bw x s t v 1) s sp φ ς->yi Q mn (bw x s t (some (φ,ς)) 1) c rest S H (.int .u64 (cM ς))\/∃t',Act ς t ς t'/\∀cl,cl<φ->yi Q mn (bw x s t' (some (cl,ς)) 1) c rest S H (.int .u64 (cM ς))) :
  cn Tryz.prog Q mn (bw x s t v 1) (Frame.enter Tryz.prog 168 #[ptr s 0] .normal) (c::rest) H:=by
 letI:bm:=ep;have U:=ζ.seq;refine V.qt (z:=one _) (vs:=[ptr s 0]) Tryz.func168 rfl Β (by simp[Tryz.ntmps168]) ?_ _ rfl;refine V.bh (U _ _ _) rfl ?_;(repeat (first|apply aZ|apply wb|apply a2|apply wd|refine aj rfl ?_|refine ah rfl ?_|(refine ν λη I=>?_;simp;(repeat (rw[δ];simp));apply I)));refine W.cj ?_;refine W.part (A:=[]) Ι [0,1,2] [3,4] rfl λη I=>?_;(try simp);(repeat (rw[δ];simp));apply I;refine W.stop ?_;refine V.IP (U _ _ _).here (Nat.succ_pos _) (sp:=sp) ζ.spec (by rw[b2];exact cH) ⟨⟨rfl,rfl,by simp[Frame.enter],rfl⟩,Pj,⟨_,rfl⟩,rfl,rfl,rfl⟩ (λφ ς ο=>(dk φ ς ο).imp (λh=>?_) (λ⟨t',Μ,aA⟩=>⟨t',by rw[b2];exact Μ,λcl eg=>?_⟩))
 ·unfold h0;rw[kh];refine V.bh (U _ _ _) rfl ?_;refine W.part (A:=[]) Ι [4] [] rfl λη I=>?_;(try simp);(repeat (rw[δ];simp));(try simp[]);apply I;refine W.bF (.stop ?_);refine V.s5 (U _ _ _) rfl rfl rfl rfl Tryz.func168 rfl rfl λbJ bO H1 ξ jy=>?_;obtain rfl:bO=[]:=dp.1 jy.len;rintro y rfl;exact h bJ H1 ξ.ext jy
 ·rw[gT];refine V.bh (U _ _ _) rfl ?_;refine W.part (A:=[]) Ι [4] [] rfl λη I=>?_;(try simp);(repeat (rw[δ];simp));(try simp[]);apply I;refine W.bF (.stop ?_);refine V.s5 (U _ _ _) rfl rfl rfl rfl Tryz.func168 rfl rfl λbJ bO H1 ξ jy=>?_;obtain rfl:bO=[]:=dp.1 jy.len;rintro y rfl;exact aA cl eg bJ H1 ξ.ext jy
theorem aθ (ζ:l3 x s sp) (cH:¬fU t) (Β:Holds S B σ H) {old new:Int}
  (AD:∀φ ς,Seen (bw x s t v 1) s sp φ ς->¬cM ς=old->yi Q mn (bw x s t (some (φ,ς)) 1) c rest S H (.bool false))
  (dk:∀φ ς,Seen (bw x s t v 1) s sp φ ς->cM ς=old->∃o' t',cM o'=new/\o'.cE=ς.cE/\rG ς o'/\Act ς t o' t'/\∀cl,cl<φ->yi Q mn (bw x s t' (some (cl,o')) 1) c rest S H (.bool true)) :
  cn Tryz.prog Q mn (bw x s t v 1) (Frame.enter Tryz.prog 179 #[ptr s 0,.int .u64 old,.int .u64 new] .normal) (c::rest) H:=by
 letI:bm:=ep;have U:=ζ.seq;refine V.qt (z:=one _) (vs:=[ptr s 0,.int .u64 old,.int .u64 new]) Tryz.func179 rfl Β (by simp[Tryz.ntmps179]) ?_ _ rfl;refine V.bh (U _ _ _) rfl ?_;(repeat (first|apply aZ|apply wb|apply a2|apply wd|refine aj rfl ?_|refine ah rfl ?_|(refine ν λη I=>?_;simp;(repeat (rw[δ];simp));apply I)));refine W.cj ?_;refine W.part (A:=[]) Ι [0,1,2,3,4] [5,6] rfl λη I=>?_;(try simp);(repeat (rw[δ];simp));apply I;refine W.stop ?_;refine V.Zi (U _ _ _).here (Nat.succ_pos _) (sp:=sp) ζ.spec (by rw[b2];exact cH) ⟨⟨rfl,rfl,by simp[Frame.enter],rfl⟩,ZL,⟨_,rfl⟩,rfl,rfl,rfl⟩ (λφ ς ο hv=>?_) (λφ ς ο hv=>?_)
 ·have h:=AD φ ς ο hv;unfold h0;rw[kh];refine V.bh (U _ _ _) rfl ?_;refine W.part (A:=[]) Ι [6] [] rfl λη I=>?_;(try simp);(repeat (rw[δ];simp));(try simp[]);apply I;refine W.bF (.stop ?_);refine V.s5 (U _ _ _) rfl rfl rfl rfl Tryz.func179 rfl rfl λbJ bO H1 ξ jy=>?_;obtain rfl:bO=[]:=dp.1 jy.len;rintro y rfl;exact h bJ H1 ξ.ext jy
 ·obtain⟨o',t',J,γ,π,Μ,aA⟩:=dk φ ς ο hv;refine⟨o',t',J,γ,π,by rw[b2];exact Μ,λcl eg=>?_⟩;rw[gT];refine V.bh (U _ _ _) rfl ?_;refine W.part (A:=[]) Ι [6] [] rfl λη I=>?_;(try simp);(repeat (rw[δ];simp));(try simp[]);apply I;refine W.bF (.stop ?_);refine V.s5 (U _ _ _) rfl rfl rfl rfl Tryz.func179 rfl rfl λbJ bO H1 ξ jy=>?_;obtain rfl:bO=[]:=dp.1 jy.len;rintro y rfl;exact aA cl eg bJ H1 ξ.ext jy
end
theorem fx.fY {m nt:Nat} {S ax:aB} {B:aR} {H H':Α} {env:aa} {t:Array Value} (h:fx m nt S B H [] env t) (he:∀p∈env,∃v,p.2=θ.z v) (Β:Holds ax [] [] H'):fx 0 nt ax [] H' [] env t:=⟨Β,AP he h.cp,h.size,Nat.le_refl _⟩
theorem cn.Jb [bm] {P:Program} {Q:Value->Prop} {mn:Bool} {x:aV} {c b:Frame} {rest:List Frame} {H:Α} {t:Array Value} {k:List Item} {fn:Func} {f:FuncId} (U:Seq (one x)) (hy:Seq (one {x with deaf:=x.deaf-1})) (hd:0<x.deaf) (hb:b.mode=.run) (cd:b.roundOf=none) (eC:b.defers=[Go.Conc.dcall f #[]]) (gJ:b.kind=.normal) (cf:P.funcs[b.fn]?=some fn) (eT:fn.results=#[])
  (he:Entry P f (λ_=>do mark .enable;pure Extern.Race.none_)) (h:cn P Q mn {x with deaf:=x.deaf-1} (c.finish (.tuple #[])) rest H):cn P Q mn x (ar b t (.code .ret::k)) (c::rest) H:=by
 refine aM.ret (x:=one x) U hb cd (λy Ξ=>?_) x rfl;cases Ξ;refine cn.Zo U.here hd hb cd eC he ?_;refine aM.back (f:={ar {b with defers:=[]} t (.code .ret::k) with mode:=.returning}) (x:=one {x with deaf:=x.deaf-1}) hy rfl rfl (.inl gJ) cf ?_ _ rfl;rw[results_none eT];refine υ.pure' (λy Ξ=>?_);cases Ξ;exact h
section
variable {Q:Value->Prop} {mn:Bool} {x:aV} {c:Frame} {rest:List Frame} {S:aB} {B:aR} {σ:List Row} {H:Α} {s n p:Nat} {sp:Spec} {v:Option (Nat×aN)} {t:Tok}
theorem aι (ζ:l3 x s sp) (Η:n<sp.top) (Β:Holds S B σ H)
  (Κ:∀v,yi Q mn (bw x s (.par (n+1) (p+1) .add) v 0) c rest S H (.tuple #[])) :
  cn Tryz.prog Q mn (bw x s (.par n p .add) v 0) (Frame.enter Tryz.prog 140 #[ptr s 0,.int .i64 1] .normal) (c::rest) H:=by
 letI:bm:=ep;have U:=ζ.seq;refine V.qt (z:=one _) (vs:=[ptr s 0,.int .i64 1]) Tryz.func140 rfl Β (by simp[Tryz.ntmps140]) ?_ _ rfl;refine V.bh (U _ _ _) rfl ?_;(repeat (first|apply aZ|apply wb|apply a2|apply wd|refine aj rfl ?_|refine ah rfl ?_|(refine ν λη I=>?_;simp;(repeat (rw[δ];simp));apply I)));refine W.cj (.stop ?_);refine V.disable (U _ _ _).here ⟨⟨rfl,rfl,by simp[Frame.enter],rfl⟩,AI,⟨_,rfl⟩,rfl,rfl,rfl⟩ ?_;rw[AE];refine V.bh (U _ _ _) rfl ?_;refine W.bF ?_
 repeat first|apply aZ|apply wb|apply a2|apply wd
 refine W.cj (.stop ?_);refine V.IT (U _ _ _) ⟨rfl,rfl,by simp[Frame.enter],rfl⟩ rfl rfl rfl ?_;refine V.bh (U _ _ _) rfl ?_;refine W.bF ?_;(repeat (first|apply aZ|apply wb|apply a2|apply wd|refine aj rfl ?_|refine ah rfl ?_|(refine ν λη I=>?_;simp;(repeat (rw[δ];simp));apply I)));refine W.cj (.stop ?_);refine V.Ew (U _ _ _) (vs:=[]) ⟨⟨rfl,rfl,by simp[Frame.enter],rfl⟩,Pf,⟨_,rfl⟩,rfl,rfl,rfl⟩ ?_;refine V.bh (U _ _ _) rfl ?_;refine W.bF ?_;(repeat (first|apply aZ|apply wb|apply a2|apply wd|refine aj rfl ?_|refine ah rfl ?_|(refine ν λη I=>?_;simp;(repeat (rw[δ];simp));apply I)));refine W.cj ?_;refine W.part (A:=[]) Ι [0,1,2,3,4,5] [6,7] rfl λη I=>?_;(try simp);(repeat (rw[δ];simp[PE,PF]));(try simp[PE,PF]);apply I;refine W.stop ?_;refine V.call (U _ _ _) ⟨rfl,rfl,by simp[Frame.enter],rfl⟩ rfl rfl rfl ⟨_,Tryz.func166,rfl,rfl⟩ λbJ bO H1 t1 pf ξ ψ hv=>?_;obtain rfl:=mV (l:=[ptr s 0,.int .u64 4294967296]) hv;obtain rfl:bO=[]:=dp.1 ψ.holds.len;rintro y rfl;refine aη ζ id ψ.holds λφ ς ο=>?_;have χ:=ο.jc.s9;rw[b2] at χ;obtain⟨Τ,af,aX,cr,gH⟩:=χ.add n p rfl;have gB:=EK ζ ο.spec;have q4:n<ς.top:=by rw[show ς.top=sp.top by rw[<-ο.spec]];exact Η
 have small:∀a b c d:Nat,a=b+1->b<=c->c<d->d<7->a<8/\b<7/\0<a/\¬a=0:=λa b c d J γ π Μ=>by omega
 obtain⟨cc,mC⟩:∃cc,cc=ς.cnt+1:=⟨_,rfl⟩;obtain⟨k1,cC,p1,lΔ⟩:=small cc ς.cnt n ς.top mC gH q4 gB;have qX:cM {ς with cnt:=cc}=hS cc 0:=by rw[uK];simp only[Τ]
 refine⟨{ς with cnt:=cc},.par (n+1) (p+1) .add,?_,rfl,⟨rfl,rfl,rfl⟩,by rw[mC];exact .add q4,λcl eg cT bN k6 iU=>?_⟩
 ·rw[qX,uK,Τ,aδ ς.cnt cC 0 (by decide),mC]
 have f1:=EH cc k1 0 (by decide)
 have f2:=EI cc k1 0 (by decide)
 have f3:=EJ cc k1 0 (by decide);rw[qX];generalize hS cc 0=w at f1 f2 f3;rw[h' rfl];refine V.here (x:=one _) (m:=0) (nt:=117) ?_ ((ψ.put (a:=.z (.int .u64 w)) rfl (.z _)).fY (by simp) iU) _ rfl;have fin:∀(v:Option (Nat×aN)) (env:aa) (K:List Item),V Tryz.prog Q mn (one (bw x s (.par (n+1) (p+1) .add) v 1)) {Frame.enter Tryz.prog 140 #[ptr s 0,.int .i64 1] .normal with defers:=[Go.Conc.dcall 161 #[]]} (c::rest) 117 ⟨cT,[],bN,[],0⟩ (.code .ret::K) env []:=λv env K kA kB jb t3 gI eW=>by
  rintro y rfl;obtain rfl:kB=[]:=dp.1 eW.holds.len;exact cn.Jb (U _ _ _) (U _ _ 0) (Nat.succ_pos _) rfl rfl rfl rfl Tryz.func140 rfl uG (Κ v kA jb ((ξ.ext.trans k6).trans gI.ext) eW.holds)
 refine V.bh (U _ _ _) rfl ?_;refine W.part (A:=[]) Ι [7] [] rfl λη I=>?_;(try simp);(repeat (rw[δ];simp));(try simp[]);apply I;refine W.bF ?_;by_cases J:cc=1
 ·(repeat (first|apply aZ|apply wb|apply a2|apply wd|refine aj rfl ?_|refine ah rfl ?_|(refine ν λη I=>?_;simp;(repeat (rw[δ];simp[f1,f2,f3,I',J]));apply I)));refine W.cj ?_;refine W.part (A:=[]) Ι [0,1,2] [3,4] rfl λη I=>?_;(try simp);(repeat (rw[δ];simp));apply I;refine W.stop ?_;refine V.conv (U _ _ _).here (sp:=sp) ζ.spec (by rw[b2];exact id) ⟨rfl,rfl,by simp[Frame.enter],rfl⟩ rfl rfl rfl Pm uH Pn rfl (λς w Γ bB=>⟨_,bB.Τ⟩) (λφ ς ο=>?_);unfold h0;rw[kh];refine V.Zg ζ.rel b2 (by simp) ⟨⟨rfl,rfl,by simp[Frame.enter],rfl⟩,ZJ,⟨_,rfl⟩,rfl,rfl,rfl⟩ ?_;refine V.bh (U _ _ _) rfl ?_;refine W.bF ?_;(repeat (first|apply aZ|apply wb|apply a2|apply wd|refine aj rfl ?_|refine ah rfl ?_|(refine ν λη I=>?_;simp;(repeat (rw[δ];simp[f1,f2,f3,I',J]));apply I)));exact .stop (fin _ _ _)
 ·have xv:¬(cc:Int)=1:=λh=>J (by exact_mod_cast h);(repeat (first|apply aZ|apply wb|apply a2|apply wd|refine aj rfl ?_|refine ah rfl ?_|(refine ν λη I=>?_;simp;(repeat (rw[δ];simp[f1,f2,f3,I',J,xv,p1]));apply I)));exact .stop (fin _ _ _)
end
noncomputable def AU:Code:=Tryz.f146.body.getD .skip
noncomputable def nK:Code:=dC [1,0,0] AU
noncomputable def wD:List Item:=[.inLoop nK,.inBlock 0]
theorem PG:eS .u64 0 2147483648=0:=by decide
theorem PH:eS .u64 0 2147483647=0:=by decide
theorem EL:IntKind.u32.wrap 0=0:=by decide
theorem PI:IntKind.i32.wrap 0=0:=by decide
section
variable {Q:Value->Prop} {mn:Bool} {x:aV} {c:Frame} {rest:List Frame} {S:aB} {B:aR} {σ:List Row} {H:Α} {s n p:Nat} {sp:Spec} {v:Option (Nat×aN)} {t:Tok}
abbrev uL (Q:Value->Prop) (mn:Bool) (x:aV) (c:Frame) (rest:List Frame) (S:aB) (H:Α) (s:Nat) (t:Tok) (v:Option (Nat×aN)) (d:Nat) (K:List Item) (env:aa):Prop:=
 V Tryz.prog Q mn (one (bw x s t v d)) (Frame.enter Tryz.prog 146 #[ptr s 0] .normal) (c::rest) 84 ⟨S,[],H,[],0⟩ K env []
def rK (Q:Value->Prop) (mn:Bool) (x:aV) (c:Frame) (rest:List Frame) (S:aB) (H:Α) (s n:Nat) (sp:Spec):Prop:=
 ∀(ax:aB) (H':Α) (gf ft:List Nat) (gE eu:Α),Ext S [] H ax [] H'->Holds ax [] [] H'->gf.Perm (List.range n)->lC sp.D gf gE->(sp.aT≠none->ft.Perm (List.range n)/\sp.aH ft eu)->(sp.aT=none->eu=Α.empty)->Apart H' gE->Apart H' eu->Apart gE eu->(∃w,Fits H' w/\Fits gE w/\Fits eu w)->
  ∀(v:Option (Nat×aN)) (cT:aB) (bN:Α),Ext e6 [] (join (join H' gE) eu) cT [] bN->cn Tryz.prog Q mn (bw x s (.par n 0 .bA) v 0) (c.finish (.tuple #[])) rest bN
theorem rK.later {cT:aB} {bN:Α} (h:rK Q mn x c rest S H s n sp) (he:Ext S [] H cT [] bN):rK Q mn x c rest cT bN s n sp:=
 λax H' gf ft gE eu a1 bl cz gb hA md ve tu y4 Ge v kA jb y5=>h ax H' gf ft gE eu (he.trans a1) bl cz gb hA md ve tu y4 Ge v kA jb y5
theorem PJ (ζ:l3 x s sp) (Κ:∀(v:Option (Nat×aN)) (cT:aB) (bN:Α),Ext e6 [] H cT [] bN->cn Tryz.prog Q mn (bw x s (.par n 0 .bA) v 0) (c.finish (.tuple #[])) rest bN) {K:List Item} {env:aa}:uL Q mn x c rest e6 H s (.par n 0 .bA) v 0 (.code .ret::K) env:=by
 letI:bm:=ep;have U:=ζ.seq;refine V.IS (U _ _ _) rfl rfl rfl rfl Tryz.func146 rfl λbJ bO H1 ξ Β=>?_;obtain rfl:bO=[]:=dp.1 Β.len;rintro y rfl;exact Κ v bJ H1 ξ.ext
theorem PK (ζ:l3 x s sp) (cU:rK Q mn x c rest S H s n sp):uL Q mn x c rest S H s (.par n 0 .l') v 1 (.code (dC [0,1] nK)::.inBlock 1::wD) [(0,.z (ptr s 0)),(2,.z (.int .u64 0))]:=by
 letI:bm:=ep;have U:=ζ.seq;refine V.bh (U _ _ _) rfl ?_;unfold nK AU;(repeat (first|apply aZ|apply wb|apply a2|apply wd|refine aj rfl ?_|refine ah rfl ?_|(refine ν λη I=>?_;simp;(repeat (rw[δ];simp[PG,PH,EL,PI]));apply I)));refine W.cj (.stop ?_);refine V.enable (U _ _ _).here (Nat.succ_pos _) ⟨⟨rfl,rfl,by simp[Frame.enter],rfl⟩,uG,⟨_,rfl⟩,rfl,rfl,rfl⟩ ?_;rw[AF];refine V.bh (U _ _ _) rfl ?_;refine W.bF ?_;refine W.cj ?_;refine W.part (A:=[]) Ι [0] [1,2] rfl λη I=>?_;(try simp);(repeat (rw[δ];simp));apply I;refine W.stop ?_;refine V.conv (U _ _ _).here (sp:=sp) ζ.spec (by rw[b2];exact id) ⟨rfl,rfl,by simp[Frame.enter],rfl⟩ rfl rfl rfl I2 uH I3 rfl (λς w Γ bB=>⟨_,bB.cP⟩) (λφ ς ο=>?_);unfold h0;rw[kh];refine V.Cj ζ.rel rfl (sp:=sp) ζ.spec b2 (.inl rfl) ⟨⟨rfl,rfl,by simp[Frame.enter],rfl⟩,Ez,⟨_,rfl⟩,rfl,rfl,rfl⟩ λbJ bO H1 t1 gf ft gE eu ξ ψ bG dj fT mm uk Jc Jd Je=>?_;rw[gT];obtain rfl:bO=[]:=dp.1 ψ.holds.len;have Κ:=cU bJ H1 gf ft gE eu ξ.ext ψ.holds bG dj fT mm uk Jc Jd Je;refine V.here (x:=one _) (S:=e6) (B:=[]) (σ:=[]) (m:=0) (nt:=84) ?_ (ψ.none (by simp)) _ rfl;refine V.bh (U _ _ _) rfl ?_;refine W.bF ?_;(repeat (first|apply aZ|apply wb|apply a2|apply wd|refine aj rfl ?_|refine ah rfl ?_|(refine ν λη I=>?_;simp;(repeat (rw[δ];simp[PG,PH,EL,PI]));apply I)));exact .stop (PJ ζ Κ)
theorem aκ (ζ:l3 x s sp) (cU:rK Q mn x c rest S H s n sp):uL Q mn x c rest S H s (.par n 0 .w4) v 1 (.code (dC [0,1,1,1,1,1,0,1,1,1,1] nK)::.inBlock 1::wD) [(0,.z (ptr s 0))]:=by
 letI:bm:=ep;have U:=ζ.seq;refine V.bh (U _ _ _) rfl ?_;unfold nK AU
 repeat first|apply aZ|apply wb|apply a2|apply wd
 refine W.cj ?_;refine W.part (A:=[]) Ι [0,1,2] [3,4,5] rfl λη I=>?_;(try simp);(repeat (rw[δ];simp));apply I;refine W.stop ?_;refine V.call (U _ _ _) ⟨rfl,rfl,by simp[Frame.enter],rfl⟩ rfl rfl rfl ⟨_,Tryz.func168,rfl,rfl⟩ λbJ bO H1 t1 pf ξ ψ hv=>?_;obtain rfl:=mV (l:=[ptr s 0]) hv;obtain rfl:bO=[]:=dp.1 ψ.holds.len;rintro y rfl;refine Ja ζ id ψ.holds λφ ς ο=>.inl λcT bN k6 iU=>?_;have χ:=ο.jc.s9;rw[b2] at χ;obtain⟨Τ,af,aX⟩:=χ.fin n 0 (.inr (.inl rfl));have Υ:cM ς=0:=by simp only[cM,Τ,aX];rfl
 rw[Υ,h' rfl];have yj:=cU.later (ξ.ext.trans k6);refine V.here (x:=one _) (m:=0) (nt:=84) ?_ ((ψ.put (a:=.z (.int .u64 0)) rfl (.z _)).fY (by simp) iU) _ rfl;refine V.bh (U _ _ _) rfl ?_;refine W.part (A:=[]) Ι [4,5] [] rfl λη I=>?_;(try simp);(repeat (rw[δ];simp));(try simp[]);apply I;refine W.bF ?_;(repeat (first|apply aZ|apply wb|apply a2|apply wd|refine aj rfl ?_|refine ah rfl ?_|(refine ν λη I=>?_;simp;(repeat (rw[δ];simp));apply I)));refine W.cj (.stop ?_);refine V.enable (U _ _ _).here (Nat.succ_pos _) ⟨⟨rfl,rfl,by simp[Frame.enter],rfl⟩,uG,⟨_,rfl⟩,rfl,rfl,rfl⟩ ?_;rw[AF];refine V.bh (U _ _ _) rfl ?_;refine W.bF ?_;refine W.cj ?_;refine W.part (A:=[]) Ι [0] [1,2] rfl λη I=>?_;(try simp);(repeat (rw[δ];simp));apply I;refine W.stop ?_;refine V.conv (U _ _ _).here (sp:=sp) ζ.spec (by rw[b2];exact id) ⟨rfl,rfl,by simp[Frame.enter],rfl⟩ rfl rfl rfl I2 uH I3 rfl (λς w Γ bB=>⟨_,bB.cP⟩) (λφ ς ο=>?_);unfold h0;rw[kh];refine V.Cj ζ.rel rfl (sp:=sp) ζ.spec b2 (.inr rfl) ⟨⟨rfl,rfl,by simp[Frame.enter],rfl⟩,Ez,⟨_,rfl⟩,rfl,rfl,rfl⟩ λbJ bO H1 t1 gf ft gE eu ξ ψ bG dj fT mm uk Jc Jd Je=>?_;rw[gT];obtain rfl:bO=[]:=dp.1 ψ.holds.len;have Κ:=yj bJ H1 gf ft gE eu ξ.ext ψ.holds bG dj fT mm uk Jc Jd Je;refine V.here (x:=one _) (S:=e6) (B:=[]) (σ:=[]) (m:=0) (nt:=84) ?_ (ψ.none (by simp)) _ rfl;refine V.bh (U _ _ _) rfl ?_;refine W.bF ?_;(repeat (first|apply aZ|apply wb|apply a2|apply wd|refine aj rfl ?_|refine ah rfl ?_|(refine ν λη I=>?_;simp;(repeat (rw[δ];simp));apply I)));exact .stop (PJ ζ Κ)
theorem aμ {a b d:Nat} (h:a<=b) (J:b<7):a<8/\a<7:=by omega
theorem aν {a b:Nat} (h:a<b):¬b=0:=by omega
theorem aξ (ζ:l3 x s sp) (cU:rK Q mn x c rest S H s n sp) {φ:Nat} {ς:aN}:uL Q mn x c rest S H s (.par n 0 .w3) (some (φ,ς)) 1 (.code (dC [0,1,1,1,1,1,0,1,1,1,0] nK)::.code (dC [0,1,1,1,1,1,0,1,1,1,1] nK)::.inBlock 1::wD) [(0,.z (ptr s 0)),(5,.z (.bool false))]:=by
 letI:bm:=ep;have U:=ζ.seq;have woken:∀v,uL Q mn x c rest S H s (.par n 0 .w4) v 1 (.code (dC [0,1,1,1,1,1,0,1,1,1,1] nK)::.inBlock 1::wD) [(0,.z (ptr s 0))]:=λv=>aκ ζ cU;refine V.bh (U _ _ _) rfl ?_;unfold nK AU;refine W.cj ?_;refine W.part (A:=[]) Ι [0,1,2,3] [4] rfl λη I=>?_;(try simp);(repeat (rw[δ];simp));apply I;refine W.stop ?_;refine V.Zk (U _ _ _).here (sp:=sp) ζ.spec (by rw[b2];exact id) (vs:=[ptr s 1,.bool false]) rfl (λbq iM=>by rw[AG iM];exact ζ.still bq iM) ⟨⟨rfl,rfl,by simp[Frame.enter],rfl⟩,ZQ,⟨_,rfl⟩,rfl,rfl,rfl⟩ (λgV ς ο h=>by rw[b2];exact h) (λgV ς ο h=>?_);refine⟨{ς with cE:=ς.cE-1},.par n 0 .w4,rfl,rfl,⟨rfl,rfl,rfl⟩,by rw[b2];exact .wake h,λhK eg=>?_⟩;rw[gT];refine V.bh (U _ _ _) rfl ?_;refine W.bF ?_;refine W.forget [(0,.z (ptr s 0))] (by simp) (.stop ?_);exact woken _
theorem aο (ζ:l3 x s sp):∀(N φ:Nat) (ς:aN) (S:aB) (H:Α),φ<N->ς.toSpec=sp->0<ς.cnt->ς.cnt<=ς.top->ς.wt=0->rK Q mn x c rest S H s n sp->
  uL Q mn x c rest S H s (.par n 0 .add) (some (φ,ς)) 1 (.code (dC [0,1] nK)::.inBlock 1::wD) [(0,.z (ptr s 0)),(2,.z (.int .u64 (cM ς)))]:=by
 letI:bm:=ep;have U:=ζ.seq;intro N
 induction N with
 | zero=>intro φ ς S H h;exact absurd h (Nat.not_lt_zero _)
 | succ N AN=>
  intro φ ς S H b8 Γ Cc PL qV cU;have gB:=EK ζ Γ;obtain⟨k1,cC⟩:=aμ (d:=0) PL gB;have f1:=EH ς.cnt k1 0 (by decide);have f2:=EI ς.cnt k1 0 (by decide);have f3:=EJ ς.cnt k1 0 (by decide);have f4:=aζ ς.cnt k1;have zg:cM ς=hS ς.cnt 0:=by rw[uK,qV]
  have bz:¬ς.cnt=0:=aν Cc
  have Ee:¬(ς.cnt:Int)=0:=λh=>bz (by exact_mod_cast h);rw[<-zg] at f1 f2 f3 f4;have sleep:∀(S H) (φ:Nat) (ς:aN),rK Q mn x c rest S H s n sp->uL Q mn x c rest S H s (.par n 0 .w3) (some (φ,ς)) 1 (.code (dC [0,1,1,1,1,1,0,1,1,1,0] nK)::.code (dC [0,1,1,1,1,1,0,1,1,1,1] nK)::.inBlock 1::wD) [(0,.z (ptr s 0)),(5,.z (.bool false))]:=λS H φ ς cU=>aξ ζ cU;have l':∀(S H v),rK Q mn x c rest S H s n sp->uL Q mn x c rest S H s (.par n 0 .l') v 1 (.code (dC [0,1] nK)::.inBlock 1::wD) [(0,.z (ptr s 0)),(2,.z (.int .u64 0))]:=λS H v cU=>PK ζ cU;refine V.bh (U _ _ _) rfl ?_;unfold nK AU;(repeat (first|apply aZ|apply wb|apply a2|apply wd|refine aj rfl ?_|refine ah rfl ?_|(refine ν λη I=>?_;simp;(repeat (rw[δ];simp[f2,f3,bz,Ee]));apply I)));refine W.cj ?_;refine W.part (A:=[]) Ι [0,1,2,3,4,5] [6] rfl λη I=>?_;(try simp);(repeat (rw[δ];simp[f4]));(try simp[f4]);apply I;refine W.stop ?_;refine V.call (U _ _ _) ⟨rfl,rfl,by simp[Frame.enter],rfl⟩ rfl rfl rfl ⟨_,Tryz.func179,rfl,rfl⟩ λbJ bO H1 t1 pf ξ ψ hv=>?_;obtain rfl:=mV (l:=[ptr s 0,.int .u64 (cM ς),.int .u64 (hS ς.cnt 1)]) hv;obtain rfl:bO=[]:=dp.1 ψ.holds.len;rintro y rfl;refine aθ ζ id ψ.holds (λgV fN ο hv cT bN k6 iU=>?_) (λgV fN ο hv=>?_)
  ·have p8:=ο.view φ ς pt
   have aA:gV<N:=by
    rcases Nat.lt_or_ge gV φ with h|h
    ·exact Nat.lt_of_lt_of_le h (Nat.le_of_lt_succ b8)
    ·exact absurd (by rw[p8.2 (Nat.le_antisymm p8.1 h)]) hv
   have yj:=cU.later (ξ.ext.trans k6);rw[h' rfl];refine V.here (x:=one _) (m:=0) (nt:=84) ?_ ((ψ.put (a:=.z (.bool false)) rfl (.z _)).fY (by simp) iU) _ rfl;refine V.bh (U _ _ _) rfl ?_;refine W.bF ?_;refine ah rfl ?_
   repeat first|apply aZ|apply wb|apply a2|apply wd
   refine W.inLoop ?_;refine W.forget [(0,.z (ptr s 0))] (by simp) ?_
   repeat first|apply aZ|apply wb|apply a2|apply wd
   refine W.cj ?_;refine W.part (A:=[]) Ι [0,1,2] [3,4] rfl λη I=>?_;(try simp);(repeat (rw[δ];simp));apply I;refine W.stop ?_;refine V.call (U _ _ _) ⟨rfl,rfl,by simp[Frame.enter],rfl⟩ rfl rfl rfl ⟨_,Tryz.func168,rfl,rfl⟩ λkA kB jb t3 Jf gI eW sU=>?_;obtain rfl:=mV (l:=[ptr s 0]) sU;obtain rfl:kB=[]:=dp.1 eW.holds.len;rintro y rfl;refine Ja ζ id eW.holds λhK fB dP=>?_;have dW:=dP.jc.s9;rw[b2] at dW;obtain⟨eR,ew,iE,sC,tW⟩:=dW.add n 0 rfl;have nE:=dP.view gV fN pt;by_cases ag:fB.cnt=0
   ·refine .inr ⟨.par n 0 .l',.thru ag,λyf aπ jI jJ ov kJ=>?_⟩;have Υ:cM fB=0:=by simp only[cM,eR,ag];rfl
    rw[Υ,h' rfl];have wE:=yj.later (gI.ext.trans ov);refine V.here (x:=one _) (m:=0) (nt:=84) ?_ ((eW.put (a:=.z (.int .u64 0)) rfl (.z _)).fY (by simp) kJ) _ rfl;refine V.bh (U _ _ _) rfl ?_;refine W.part (A:=[]) Ι [4] [] rfl λη I=>?_;(try simp);(repeat (rw[δ];simp));(try simp[]);apply I;refine W.bF ?_;refine W.forget [(0,.z (ptr s 0)),(2,.z (.int .u64 0))] (by simp) (.stop ?_);exact l' _ _ _ wE
   ·refine .inl λjI jJ ov kJ=>?_;rw[h' rfl];have wE:=yj.later (gI.ext.trans ov);refine V.here (x:=one _) (m:=0) (nt:=84) ?_ ((eW.put (a:=.z (.int .u64 (cM fB))) rfl (.z _)).fY (by simp) kJ) _ rfl;refine V.bh (U _ _ _) rfl ?_;refine W.part (A:=[]) Ι [4] [] rfl λη I=>?_;(try simp);(repeat (rw[δ];simp));(try simp[]);apply I;refine W.bF ?_;refine W.forget [(0,.z (ptr s 0)),(2,.z (.int .u64 (cM fB)))] (by simp) (.stop ?_);exact AN hK fB jI jJ (Nat.lt_of_le_of_lt nE.1 aA) dP.spec (Nat.pos_of_ne_zero ag) dW.cnt eR wE
  ·have hB:=ο.jc.s9;rw[b2] at hB;obtain⟨eR,ew,iE,sC,tW⟩:=hB.add n 0 rfl;have kH:fN.cnt=ς.cnt:=by rw[zg,uK,eR] at hv;simp only[hS] at hv;omega
   refine⟨{fN with wt:=1},.par n 0 .w3,?_,rfl,⟨rfl,rfl,rfl⟩,.LD (by rw[kH];exact Cc),λhK lΕ cT bN k6 iU=>?_⟩
   ·rw[uK];simp only[kH]
   rw[h' rfl];have yj:=cU.later (ξ.ext.trans k6);refine V.here (x:=one _) (m:=0) (nt:=84) ?_ ((ψ.put (a:=.z (.bool true)) rfl (.z _)).fY (by simp) iU) _ rfl;refine V.bh (U _ _ _) rfl ?_;refine W.bF ?_;refine aj rfl ?_;(repeat (first|apply aZ|apply wb|apply a2|apply wd|refine aj rfl ?_|refine ah rfl ?_|(refine ν λη I=>?_;simp;(repeat (rw[δ];simp));apply I)));refine W.cj ?_;refine W.part (A:=[]) Ι [0,1,2] [3,4] rfl λη I=>?_;(try simp);(repeat (rw[δ];simp));apply I;refine W.stop ?_;refine V.conv (U _ _ _).here (sp:=sp) ζ.spec (by rw[b2];exact id) ⟨rfl,rfl,by simp[Frame.enter],rfl⟩ rfl rfl rfl Pm uH Pn rfl (λς w Γ bB=>⟨_,bB.Τ⟩) (λφ ς ο=>?_);unfold h0;rw[kh];refine V.Zh ζ.rel b2 (by simp) ⟨⟨rfl,rfl,by simp[Frame.enter],rfl⟩,ZK,⟨_,rfl⟩,rfl,rfl,rfl⟩ ?_;refine V.bh (U _ _ _) rfl ?_;refine W.bF ?_;(repeat (first|apply aZ|apply wb|apply a2|apply wd|refine aj rfl ?_|refine ah rfl ?_|(refine ν λη I=>?_;simp;(repeat (rw[δ];simp[f1]));apply I)));refine W.forget [(0,.z (ptr s 0)),(5,.z (.bool false))] (by simp) (.stop ?_);exact sleep _ _ _ _ yj
theorem aρ (ζ:l3 x s sp) (Β:Holds S B σ H) (cU:rK Q mn x c rest S H s n sp) :
  cn Tryz.prog Q mn (bw x s (.par n 0 .add) v 0) (Frame.enter Tryz.prog 146 #[ptr s 0] .normal) (c::rest) H:=by
 letI:bm:=ep;have U:=ζ.seq;refine V.qt (z:=one _) (vs:=[ptr s 0]) Tryz.func146 rfl Β (by simp[Tryz.ntmps146]) ?_ _ rfl;refine V.bh (U _ _ _) rfl ?_;(repeat (first|apply aZ|apply wb|apply a2|apply wd|refine aj rfl ?_|refine ah rfl ?_|(refine ν λη I=>?_;simp;(repeat (rw[δ];simp));apply I)));refine W.cj (.stop ?_);refine V.disable (U _ _ _).here ⟨⟨rfl,rfl,by simp[Frame.enter],rfl⟩,AI,⟨_,rfl⟩,rfl,rfl,rfl⟩ ?_;rw[AE];refine V.bh (U _ _ _) rfl ?_;refine W.bF ?_
 repeat first|apply aZ|apply wb|apply a2|apply wd
 refine W.loop ?_
 repeat first|apply aZ|apply wb|apply a2|apply wd
 refine W.cj ?_;refine W.part (A:=[]) Ι [0,1,2] [3,4] rfl λη I=>?_;(try simp);(repeat (rw[δ];simp));apply I;refine W.stop ?_;refine V.call (U _ _ _) ⟨rfl,rfl,by simp[Frame.enter],rfl⟩ rfl rfl rfl ⟨_,Tryz.func168,rfl,rfl⟩ λkA kB jb t3 Jf gI eW sU=>?_;obtain rfl:=mV (l:=[ptr s 0]) sU;obtain rfl:kB=[]:=dp.1 eW.holds.len;rintro y rfl;refine Ja ζ id eW.holds λhK fB dP=>?_;have dW:=dP.jc.s9;rw[b2] at dW;obtain⟨eR,ew,iE,sC,tW⟩:=dW.add n 0 rfl;by_cases ag:fB.cnt=0
 ·refine .inr ⟨.par n 0 .l',.thru ag,λyf aπ jI jJ ov kJ=>?_⟩;have Υ:cM fB=0:=by simp only[cM,eR,ag];rfl
  rw[Υ,h' rfl];have wE:=cU.later (gI.ext.trans ov);refine V.here (x:=one _) (m:=0) (nt:=84) ?_ ((eW.put (a:=.z (.int .u64 0)) rfl (.z _)).fY (by simp) kJ) _ rfl;refine V.bh (U _ _ _) rfl ?_;refine W.part (A:=[]) Ι [4] [] rfl λη I=>?_;(try simp);(repeat (rw[δ];simp));(try simp[]);apply I;refine W.bF ?_;refine W.forget [(0,.z (ptr s 0)),(2,.z (.int .u64 0))] (by simp) (.stop ?_);exact PK ζ wE
 ·refine .inl λjI jJ ov kJ=>?_;rw[h' rfl];have wE:=cU.later (gI.ext.trans ov);refine V.here (x:=one _) (m:=0) (nt:=84) ?_ ((eW.put (a:=.z (.int .u64 (cM fB))) rfl (.z _)).fY (by simp) kJ) _ rfl;refine V.bh (U _ _ _) rfl ?_;refine W.part (A:=[]) Ι [4] [] rfl λη I=>?_;(try simp);(repeat (rw[δ];simp));(try simp[]);apply I;refine W.bF ?_;refine W.forget [(0,.z (ptr s 0)),(2,.z (.int .u64 (cM fB)))] (by simp) (.stop ?_);exact aο ζ (hK+1) hK fB jI jJ (Nat.lt_succ_self _) dP.spec (Nat.pos_of_ne_zero ag) dW.cnt eR wE
end
end Go.TL
namespace Go.TL
open Go.Conc Go.Proofs
open Go.ConcN (sumTo upd sumTo_upd upd_ne upd_same sumTo_congr le_sumTo)
variable [bm]
def cw.yk:cw->θ->Prop
 | .ok a,b=>a=b
 | .b4 p r,b=>p/\r.yk b
 | .bad,_=>False
def iK (P:Program) {α:Type} (s:Sem α) (a:α):Prop:=∀w,s.run P w=.ok a w/\∀es,s.events P w es=es
section
variable {P:Program} {T:bd} {α β:Type}
theorem iK.pure (a:α):iK P (Pure.pure a) a:=λw=>⟨by simp,λes=>by simp⟩
theorem iK.bind {s:Sem α} {f:α->Sem β} {a:α} {b:β} (h:iK P s a) (k:iK P (f a) b):iK P (s >>= f) b:=λw=>⟨by simp[(h w).1,(k w).1,Result.andThen],λes=>by simp[(h w).1,(h w).2,(k w).2,Result.evThen]⟩
theorem iK.program:iK P Go.program P:=λw=>⟨by simp,λes=>by simp⟩
theorem iK.underlying {t:TypeId} {d:TypeDesc} (h:P.underlying t=some d):iK P (Go.underlying t) d:=λw=>⟨run_underlying h w,λes=>by simp⟩
theorem iK.sizeOf {t:TypeId} {i:TypeInfo} (hi:P.info? t=some i):iK P (Go.sizeOf t) i.size:=by
 unfold Go.sizeOf Go.typeInfo;refine iK.bind (iK.bind .program ?_) (iK.pure _);show iK P (match P.info? t with|some i=>Pure.pure i|none=>_) i;rw[hi];exact .pure _
theorem aς {op:BinOp} {ty:TypeId} {p q:Operand} {x y v:Value} (h:(sy op x y).yk (.z v)):iK P (do eqGuard op ty p q x y;binOp op ty x y) v:=by
 unfold sy at h;split at h
 case h_25=>exact h.elim
 case h_1=>
  obtain⟨J,γ⟩:=h;cases γ;have cJ:¬(_:Int)<0:=Int.not_lt.2 J;simp only[eqGuard,binOp,Op.shift,cJ,if_false];exact .pure _
 case h_2=>
  obtain⟨J,γ⟩:=h;cases γ;have cJ:¬(_:Int)<0:=Int.not_lt.2 J;simp only[eqGuard,binOp,Op.shift,cJ,if_false];exact .pure _
 case h_6=>
  split at h
  ·rename_i e;subst e;obtain⟨J,γ⟩:=h;cases γ;simp only[eqGuard,binOp,Op.intDiv,J,if_false,ne_eq,not_true_eq_false];exact .pure _
  ·exact h.elim
 case h_7=>
  split at h
  ·rename_i e;subst e;obtain⟨J,γ⟩:=h;cases γ;simp only[eqGuard,binOp,Op.intDiv,J,if_false,ne_eq,not_true_eq_false];exact .pure _
  ·exact h.elim
 case h_18=>
  obtain⟨J,γ⟩:=h;cases γ;have cJ:¬((_:Int) > IntKind.i64.max):=Int.not_lt.2 J;simp only[eqGuard,binOp,Op.stringOp,cJ,if_false];exact .pure _
 all_goals first
  |(cases h;exact .pure _)
  |(split at h
    ·rename_i e;subst e;cases h;simp only[eqGuard,binOp,Op.intArith,Op.intBits,Op.intCmp,ne_eq,not_true_eq_false,if_false];exact .pure _
    ·exact h.elim)
def yl (T:bd) (env:aa) (o:Oper):cw:=match o.op with
 | .move x=>.ok (aQ env x)
 | .assign x=>.ok (aQ env x)
 | .pick c a b=>xR (aQ env c) (aQ env a) (aQ env b)
 | .binOp op _ x y _=>match aQ env x,aQ env y with
  | .z a,.z b=>sy op a b
  | _,_=>.bad
 | .unOp op _ x=>xC op (aQ env x)
 | .convert s d x=>xK T s d (aQ env x)
 | .nilCheck x=>match aQ env x with
  | .z (.pointer (some a))=>.ok (.z (.pointer (some a)))
  | _=>.bad
 | .fieldAddr ty x f=>match aQ env x with
  | .z (.pointer (some ⟨b,o',none⟩))=>match fG T ty f with|some (o,_)=>.ok (.z (.pointer (some ⟨b,o'+o,none⟩)))|none=>.bad
  | _=>.bad
 | _=>.bad
theorem aτ (Κ:bR P T) {env:aa} {o:Oper} {v:Value} (h:(yl T env o).yk (.z v)) {ρ:Operand->Value} (nL:∀y u,aQ env y=.z u->ρ y=u):iK P (execOp ρ o) (.value v):=by
 have val:∀{s:Sem Value} {u:Value},iK P s u->iK P (do Pure.pure (Next.value (<-s))) (.value u):=λο=>.bind ο (.pure _);unfold yl at h;unfold execOp;split at h<;>rename_i Γ<;>first|(rw[Γ];simp only)|exact h.elim
 ·rw[nL _ _ h];exact .pure _
 ·rw[nL _ _ h];exact .pure _
 ·rename_i c a b;unfold xR at h;split at h
  ·rename_i bv ζ;rw[nL _ _ ζ];refine iK.bind (a:=bv) (iK.pure _) ?_;split at h
   ·rename_i y z Ξ Θ;cases h;rw[nL _ _ Ξ,nL _ _ Θ];cases bv<;>exact .pure _
   ·cases bv with
    | true=>rw[nL a v h];exact .pure _
    | false=>rw[nL b v h];exact .pure _
  ·exact h.elim
 ·split at h
  ·rename_i x y U Ξ;rw[nL _ _ U,nL _ _ Ξ];exact val (aς h)
  ·exact h.elim
 ·unfold xC at h;split at h
  ·rename_i bv hb;rw[nL _ _ hb];split at h
   ·cases h;exact val (.pure _)
   ·exact h.elim
  ·rename_i k n hb;rw[nL _ _ hb];split at h
   ·cases h;exact val (.pure _)
   ·exact h.elim
  ·exact h.elim
 ·unfold xK at h;split at h
  ·rename_i i j hi ε;split at h
   ·rename_i k kk n hu U;cases h;rw[nL _ _ U];refine val ?_;unfold convert;refine .bind (.underlying (Κ _ _ hi).1.1) (.bind (.underlying (Κ _ _ ε).1.1) ?_);rw[hu];exact .pure _
   ·exact h.elim
  ·exact h.elim
 ·split at h
  ·rename_i a U;cases h;rw[nL _ _ U];exact .pure _
  ·exact h.elim
 ·split at h
  ·rename_i b o' U;rw[nL _ _ U];split at h
   ·rename_i du zG Φ;cases h;refine val ?_;unfold fG at Φ;split at Φ<;>try cases Φ
    rename_i i hi;split at Φ<;>try cases Φ
    rename_i c5 hu;split at Φ<;>try cases Φ
    rename_i x U;split at Φ<;>try cases Φ
    rename_i bZ o1;split at Φ<;>try cases Φ
    rename_i hj;unfold Instr.fieldAt;refine .bind (.underlying (Κ _ _ hi).1.1) ?_;rw[hu];simp only[U];refine .bind (a:=⟨b,o',none⟩) (.pure _) ?_;obtain⟨f,hV,p6,_⟩:=(Κ _ _ o1).2;refine .bind (a:=⟨b,o'+x.offset,none⟩) ?_ (.pure _);unfold fieldPlace;refine .bind (.sizeOf hV) ?_;rw[p6,if_neg hj,tR];exact .pure _
   ·exact h.elim
  ·exact h.elim
end
theorem aυ (vs:List Value) {nt:Nat} (Η:vs.length<=nt):de e6 [] [] (entry 0 (vs.map θ.z)) (vs.toArray++Array.replicate (nt-vs.length) undef):=by
 have μ:fy e6 [] [] (vs.map θ.z) vs.toArray:=⟨by simp,λi a v J γ=>by
  simp only[List.getElem?_map,List.getElem?_toArray] at J γ;rw[γ] at J;cases J;exact .z v⟩
 have:=(fx.enter (yh Α.empty) (m:=0) (nt:=nt) μ (Nat.le_refl _) (by simpa using Η)).cp;simpa using this
def Jg (P:Program) (mn:Bool) (dn:Goroutine->Prop):Prop:=∀g g',iv g->(∀w,stepG P mn g w=.go g' w #[])->dn g'->dn g
def ad (dn:Goroutine->Prop) (b:Frame) (cs:List Frame) (nt:Nat) (k:List Item) (env:aa):Prop:=∀t:Array Value,t.size=nt->de e6 [] [] env t->dn (Go.Conc.G (ar b t k) cs)
def mZ (T:bd) (nt:Nat) (ops:Array Oper):List Nat->aa->(aa->Prop)->Prop
 | [],env,K=>K env
 | i::is,env,K=>gP ops[i]? λo=>hT nt o=true/\gP (fz env ops o) λw=>
   jE w (mZ T nt ops is (ca o env .cg) K) (∃v,(yl T env o).yk (.z v)/\mZ T nt ops is (ca o env (.z v)) K)
theorem wF {T:bd} {nt:Nat} {ops:Array Oper} {env:aa} {K:aa->Prop}:mZ T nt ops [] env K=K env:=Eq.trans rfl rfl
def wG (T:bd) (nt:Nat) (ops:Array Oper) (is:List Nat) (o:Oper) (env:aa) (K:aa->Prop):cw->Prop
 | .ok (.z v)=>mZ T nt ops is (ca o env (.z v)) K
 | .b4 p (.ok (.z v))=>p/\mZ T nt ops is (ca o env (.z v)) K
 | _=>False
theorem aφ {T:bd} {nt:Nat} {ops:Array Oper} {is:List Nat} {o:Oper} {env:aa} {K:aa->Prop} {v:Value}:wG T nt ops is o env K (.ok (.z v))=mZ T nt ops is (ca o env (.z v)) K:=Eq.trans rfl rfl
theorem aχ {T:bd} {nt:Nat} {ops:Array Oper} {is:List Nat} {o:Oper} {env:aa} {K:aa->Prop} {v:Value} {p:Prop}:wG T nt ops is o env K (.b4 p (.ok (.z v)))=(p/\mZ T nt ops is (ca o env (.z v)) K):=Eq.trans rfl rfl
theorem aψ {T:bd} {nt:Nat} {ops:Array Oper} {is:List Nat} {o:Oper} {env:aa} {K:aa->Prop} {r r':cw} (h:r=r'):wG T nt ops is o env K r=wG T nt ops is o env K r':=by rw[h]
theorem aω {T:bd} {nt:Nat} {ops:Array Oper} {is:List Nat} {o:Oper} {env:aa} {K:aa->Prop} {r:cw} (h:wG T nt ops is o env K r):∃v,r.yk (.z v)/\mZ T nt ops is (ca o env (.z v)) K:=by
 unfold wG at h;split at h
 ·exact⟨_,rfl,h⟩
 ·exact⟨_,⟨h.1,rfl⟩,h.2⟩
 ·exact h.elim
theorem gW {T:bd} {nt:Nat} {ops:Array Oper} {i:Nat} {is:List Nat} {env:aa} {K:aa->Prop} (h:gP ops[i]? λo=>hT nt o=true/\gP (fz env ops o) λw=>jE w (mZ T nt ops is (ca o env .cg) K) (wG T nt ops is o env K (yl T env o))):mZ T nt ops (i::is) env K:=by
 unfold mZ;unfold gP at h ⊢;split at h
 ·exact h.elim
 rename_i o Γ;refine⟨h.1,?_⟩
 replace h:=h.2
 split at h
 ·exact h.elim
 rename_i w hw;exact⟨h.1,λe=>aω (h.2 e)⟩
section
variable {P:Program} {T:bd} {mn:Bool} {dn:Goroutine->Prop} {b:Frame} {cs:List Frame} {nt:Nat} {k:List Item} {env:aa} {ops:Array Oper} {i:Nat} {rest:List Nat} {op:Oper}
variable (gm:Jg P mn dn) (hb:b.mode=.run)
include gm hb
theorem ad.to {ab:List Item} (ο:∀t w,stepG.exec P mn true (ar b t k) cs none w=.go (Go.Conc.G (ar b t ab) cs) w #[]) (h:ad dn b cs nt ab env):ad dn b cs nt k env:=
 λt J γ=>gm _ _ ⟨rfl,rfl⟩ (λw=>(iV hb w).trans (ο t w)) (h t J γ)
theorem ad.skip (h:ad dn b cs nt k env):ad dn b cs nt (.code .skip::k) env:=.to gm hb (λ_ _=>rfl) h
theorem ad.inBlock {l:Nat} (h:ad dn b cs nt k env):ad dn b cs nt (.inBlock l::k) env:=.to gm hb (λ_ _=>rfl) h
theorem ad.seq {a c:Code} (h:ad dn b cs nt (.code a::.code c::k) env):ad dn b cs nt (.code (.seq a c)::k) env:=.to gm hb (λ_ _=>rfl) h
theorem ad.block {l:Nat} {c:Code} (h:ad dn b cs nt (.code c::.inBlock l::k) env):ad dn b cs nt (.code (.block l c)::k) env:=.to gm hb (λ_ _=>rfl) h
theorem ad.loop {c:Code} (h:ad dn b cs nt (.code c::.inLoop c::k) env):ad dn b cs nt (.code (.loop c)::k) env:=.to gm hb (λ_ _=>rfl) h
theorem ad.inLoop {c:Code} (h:ad dn b cs nt (.code c::.inLoop c::k) env):ad dn b cs nt (.inLoop c::k) env:=.to gm hb (λ_ _=>rfl) h
theorem ad.cj {id:Nat} {ops:Array Oper} (h:ad dn b cs nt (.inRegion ops (idx ops.size [])::k) env):ad dn b cs nt (.code (.region id ops false)::k) env:=.to gm hb (λ_ _=>by rw[idx_eq];rfl) h
theorem ad.bF {ops:Array Oper} (h:ad dn b cs nt k env):ad dn b cs nt (.inRegion ops []::k) env:=.to gm hb (λ_ _=>rfl) h
theorem ad.exit {l:Nat} {ab:List Item} (he:exitTo l k=some ab) (h:ad dn b cs nt ab env):ad dn b cs nt (.code (.exit l)::k) env:=by
 refine .to gm hb (λt w=>?_) h;unfold stepG.exec;simp only[ar,he,Option.elim];rfl
theorem ad.cond {c:Operand} {a e:Code} {v:Bool} (ζ:aQ env c=.z (.bool v)) (h:ad dn b cs nt (.code (if v then a else e)::k) env):ad dn b cs nt (.code (.cond c a e)::k) env:=by
 intro t J γ;refine gm _ _ ⟨rfl,rfl⟩ (λw=>?_) (h t J γ);rw[iV hb w];have a5:(ar b t (.code (.cond c a e)::k)).eval c=.bool v:=by rw[zx];exact En γ ζ
 unfold stepG.exec;simp only[ar] at a5 ⊢;rw[a5];rfl
theorem ad.m0 {c:Operand} {a e:Code} (ζ:aQ env c=.z (.bool true)) (h:ad dn b cs nt (.code a::k) env):ad dn b cs nt (.code (.cond c a e)::k) env:=.cond gm hb ζ h
theorem ad.m1 {c:Operand} {a e:Code} (ζ:aQ env c=.z (.bool false)) (h:ad dn b cs nt (.code e::k) env):ad dn b cs nt (.code (.cond c a e)::k) env:=.cond gm hb ζ h
theorem Jh {t:Array Value} (h:de e6 [] [] env t) (hd:hT nt op=true) (Ο:t.size=nt) {a:θ} {v:Value} (ξ:ao e6 [] [] a v):(put op t v).size=nt/\de e6 [] [] (ca op env a) (put op t v):=⟨(re h hd Ο ξ).2,(re h hd Ο ξ).1⟩
theorem ad.unwanted (Γ:ops[i]?=some op) (hw:fz env ops op=some false) (hd:hT nt op=true) (h:ad dn b cs nt (.inRegion ops rest::k) (ca op env .cg)):ad dn b cs nt (.inRegion ops (i::rest)::k) env:=by
 intro t J γ;obtain⟨s1,s2⟩:=Jh (b:=b) gm hb γ hd J (a:=.cg) (v:=undef) (.cg _);refine gm _ _ ⟨rfl,rfl⟩ (λw=>?_) (h _ s1 s2);rw[iV hb,<-h' Γ];have vm:((ops[i]?).map (Region.wanted · (yielded ops t))).getD false=false:=by simp[Γ,j3 γ hw]
 unfold stepG.exec;simp only[ar,vm];rfl
theorem ad.opn (Κ:bR P T) (cd:b.roundOf=none) (χ:b.kind≠.early) (Γ:ops[i]?=some op) (hw:fz env ops op=some true) (hd:hT nt op=true) {v:Value} (hv:(yl T env op).yk (.z v)) (h:ad dn b cs nt (.inRegion ops rest::k) (ca op env (.z v))):ad dn b cs nt (.inRegion ops (i::rest)::k) env:=by
 intro t J γ;obtain⟨s1,s2⟩:=Jh (b:=b) gm hb γ hd J (a:=.z v) (v:=v) (.z v);refine gm _ _ ⟨rfl,rfl⟩ (λw=>?_) (h _ s1 s2);have ο:=aτ Κ hv (ρ:=bs t) λy u Ξ=>En γ Ξ;rw[gA hb cd,gA hb cd,<-uD,stepG_value (a:=⟨t,b.defers⟩) Γ (j3 γ hw) χ (by rw[lY];exact(ο w).1)];unfold listed;rw[lY,(ο w).2,seen_none]
theorem ad.part (Κ:bR P T) (cd:b.roundOf=none) (χ:b.kind≠.early) (is oa:List Nat) {l:List Nat} (ω:l=is++oa) (h:∀η:aa->Prop,(∀env,ad dn b cs nt (.inRegion ops oa::k) env->η env)->mZ T nt ops is env η):ad dn b cs nt (.inRegion ops l::k) env:=by
 subst ω;have key:∀(is:List Nat) (env:aa),mZ T nt ops is env (λenv=>ad dn b cs nt (.inRegion ops oa::k) env)->ad dn b cs nt (.inRegion ops (is++oa)::k) env:=by
  intro is
  induction is with
  | nil=>intro env h;exact h
  | cons i is Δ=>
   intro env h;unfold mZ gP at h;split at h
   ·exact h.elim
   rename_i o Γ;obtain⟨hd,h⟩:=h;split at h
   ·exact h.elim
   rename_i w hw;cases w with
   | false=>exact .unwanted gm hb Γ hw hd (Δ _ (h.1 rfl))
   | true=>
    obtain⟨v,J,γ⟩:=h.2 rfl;exact .opn gm hb Κ cd χ Γ hw hd J (Δ _ γ)
 exact key is env (h _ λ_ h=>h)
theorem ad.region (Κ:bR P T) (cd:b.roundOf=none) (χ:b.kind≠.early) {id:Nat} (h:∀η:aa->Prop,(∀env,ad dn b cs nt k env->η env)->mZ T nt ops (idx ops.size []) env η):ad dn b cs nt (.code (.region id ops false)::k) env:=by
 refine .cj gm hb (.part gm hb Κ cd χ (idx ops.size []) [] (by simp) λη I=>h η λenv Ρ=>I env (.bF gm hb Ρ))
theorem ad.Ew (bS:mU b ops i op) (hw:fz env ops op=some true) (hd:hT nt op=true) {f:FuncId} {args:Array Operand} {dS:Array TypeId} (Ν:op.op=.call ⟨.value (.func f),args,dS⟩) {v:Value} (he:Entry P f (λ_=>pure v)) (h:ad dn b cs nt (.inRegion ops rest::k) (ca op env (.z v))):ad dn b cs nt (.inRegion ops (i::rest)::k) env:=by
 intro t J γ;obtain⟨s1,s2⟩:=Jh (b:=b) gm hb γ hd J (a:=.z v) (v:=v) (.z v);exact gm _ _ ⟨rfl,rfl⟩ (λw=>Em he bS (j3 γ hw) Ν (vs:=args.map (bs t)) rfl (by simp) (by simp) (by simp)) (h _ s1 s2)
theorem ad.IT (bS:mU b ops i op) (hw:fz env ops op=some true) (rf:op.dst=none) {f:FuncId} {dS:Array TypeId} (Ν:op.op=.defer ⟨.value (.func f),#[],dS⟩)
  (h:ad dn {b with defers:=Go.Conc.dcall f #[]::b.defers} cs nt (.inRegion ops rest::k) env):ad dn b cs nt (.inRegion ops (i::rest)::k) env:=by
 intro t J γ;refine gm _ (Go.Conc.G (ar {b with defers:=Go.Conc.dcall f #[]::b.defers} t (.inRegion ops rest::k)) cs) ⟨rfl,rfl⟩ (λw=>?_) (h t J γ);rw[gA bS.run bS.ro,stepG_defer (a:=⟨t,b.defers⟩) bS.op (j3 γ hw) bS.kd Ν];have:(⟨t,Go.Conc.dcall f #[]::b.defers⟩:_root_.Go.Act).put op.dst undef=⟨t,Go.Conc.dcall f #[]::b.defers⟩:=by rw[rf];rfl
 simp only[Array.map_empty,List.map_toArray,List.map_nil];rw[this,gA (b:={b with defers:=Go.Conc.dcall f #[]::b.defers}) bS.run bS.ro];rfl
theorem ad.call (bS:mU b ops i op) (hw:fz env ops op=some true) {args:Array Operand} {dS:Array TypeId} {g:FuncId} (Ν:op.op=.call ⟨.value (.func g),args,dS⟩) {vs:List Value} (k4:AA env args vs) {fn:Func} {body:Code} (cf:P.funcs[g]?=some fn) (vL:(fn.name == "runtime.NumGoroutine")=false) (nv:fn.body=some body) (Η:vs.length<=fn.ntmps)
  (h:∀t:Array Value,t.size=nt->de e6 [] [] env t->ad dn (Frame.enter P g vs.toArray .normal) (ar b t (.inRegion ops (i::rest)::k)::cs) fn.ntmps [.code body] (entry 0 (vs.map θ.z))):ad dn b cs nt (.inRegion ops (i::rest)::k) env:=by
 intro t J γ;have aU:=h t J γ (vs.toArray++Array.replicate (fn.ntmps-vs.length) undef) (by simp;omega) (aυ vs Η);rw[show vs.toArray++Array.replicate (fn.ntmps-vs.length) undef=vs.toArray++Array.replicate (fn.ntmps-vs.toArray.size) undef by simp,<-qj cf nv] at aU;refine gm _ _ ⟨rfl,rfl⟩ (λw=>?_) aU;have kS:(fn.name == "runtime.NumGoroutine")=false:=vL;have Dx:fn.body.isNone=false:=by rw[nv];rfl
 have μ:(execOp (bs t) op).run P w=.ok (.enter g vs.toArray) w/\(execOp (bs t) op).events P w #[]=#[]:=by
  have e:execOp (bs t) op=callFunc g vs.toArray:=by
   unfold execOp;rw[Ν];have:args.map (bs t)=vs.toArray:=k4.bs γ;simp only[resolve];rw[this];simp[Deferred.ofValue,Go.TL.bs,invoke]
  rw[e];unfold callFunc;have J:¬fn.name = "runtime.NumGoroutine" := by simpa using kS
  simp[cf,J,nv]
 rw[gA bS.run bS.ro,stepG_enter (a:=⟨t,b.defers⟩) bS.op (j3 γ hw) bS.kd (by rw[lY];exact μ.1)];unfold listed;rw[lY,μ.2,seen_none]
theorem ad.s5 (cd:b.roundOf=none) (eC:b.defers=[]) (gJ:b.kind=.normal) {fn:Func} (cf:P.funcs[b.fn]?=some fn) {d:Nat} (eT:fn.results=#[.tmp d]) {v:Value} (hv:a3 env d=.z v) {c:Frame}
  (h:dn (Go.Conc.G (c.finish v) cs)):ad dn b (c::cs) nt (.code .ret::k) env:=by
 intro t J γ;have lE:t.getD d undef=v:=by
  have:=γ d;rw[hv] at this;generalize t.getD d undef=u at this;cases this;rfl
 refine gm _ (Go.Conc.G {ar b t (.code .ret::k) with mode:=.returning} (c::cs)) ⟨rfl,rfl⟩ (λw=>?_) (gm _ _ ⟨rfl,rfl⟩ (λw=>?_) h)
 ·rw[iV hb];unfold stepG.exec;simp only[ar,cd];rfl
 ·rw[gA hb cd,stepG_leave (a:=⟨t,b.defers⟩) gJ eC cf (results_tmp eT _ P w) (events_results_tmp eT _ _),lE]
theorem ad.Ev (cd:b.roundOf=none) (eC:b.defers=[]) (gJ:b.kind=.normal) {fn:Func} (cf:P.funcs[b.fn]?=some fn) (eT:fn.results=#[]) {c:Frame}
  (h:dn (Go.Conc.G (c.finish (.tuple #[])) cs)):ad dn b (c::cs) nt [] env:=by
 intro t J γ;refine gm _ (Go.Conc.G {ar b t [] with mode:=.returning} (c::cs)) ⟨rfl,rfl⟩ (λw=>?_) (gm _ _ ⟨rfl,rfl⟩ (λw=>?_) h)
 ·rw[iV hb];unfold stepG.exec;simp only[ar,cd];rfl
 ·rw[gA hb cd,stepG_leave (a:=⟨t,b.defers⟩) gJ eC cf (Go.results_none eT _ P w) (Go.Conc.events_results_none eT _ _)]
end
attribute [congr] aψ
attribute [simp] wF aφ aχ yl
def kj (P:Program) (Q:Value->Prop) (mn:Bool) (y:aV) (g:Goroutine):Prop:=iv g/\Goes P Q mn g {y with G:=Α.empty}
def k9 (P:Program) (d:Nat) (g:Goroutine):Prop:=∃n,QuitsD P n d g
theorem bu {P:Program} {Q:Value->Prop} {mn:Bool} {y:aV} (U:eL y):Jg P mn (kj P Q mn y):=λg g' J γ π=>⟨J,Quiet.goes (.cons J γ (.nil _)) U π.1 π.2⟩
theorem dN {P:Program} {d:Nat}:Jg P false (k9 P d):=λg g' J γ ⟨n,π⟩=>⟨n+1,.ctl J.1 γ π⟩
section
variable {P:Program} {Q:Value->Prop} {mn:Bool} {y:aV} {b:Frame} {cs:List Frame} {nt:Nat} {k:List Item} {env:aa}
variable {ops:Array Oper} {i:Nat} {rest:List Nat} {op:Oper} {f:FuncId} {e:Array Value->Sem Value} {args:Array Operand} {vs:List Value}
theorem ad.leaves {d:Nat} (μ:y.rel=true) (Υ:∀s,Gone (y.tok s)) (hd:y.deaf=d) (h:ad (k9 P d) b cs nt k env):ad (kj P Q false y) b cs nt k env:=λt J γ=>by
 obtain⟨n,Η⟩:=h t J γ;subst hd;exact⟨⟨rfl,rfl⟩,Goes.quits n μ Υ Η⟩
theorem ad.disable (U:eL y) (h:gS P b ops i op f (λ_=>do mark .disable;pure Extern.Race.none_) args env [] nt) (χ:ad (kj P Q mn {y with deaf:=y.deaf+1}) b cs nt (.inRegion ops rest::k) (ca op env ot)):ad (kj P Q mn y) b cs nt (.inRegion ops (i::rest)::k) env:=λt J γ=>by
 obtain⟨s2,s1⟩:=re γ h.dst J (a:=ot) (v:=.tuple #[]) (.z _);exact⟨⟨rfl,rfl⟩,Goes.step U.ok (.inr ⟨⟨rfl,rfl⟩,.inr (.inl ⟨Go.Conc.G (ar b (put op t (.tuple #[])) (.inRegion ops rest::k)) cs,⟨rfl,rfl⟩,.inl λw _=>
  ⟨h.step γ (Eo .disable) (Ep .disable _) (rB (by simp)),(χ _ s1 s2).2⟩⟩)⟩)⟩
def Ji (P:Program) (Q:Value->Prop) (mn:Bool) (y:aV) (b:Frame) (cs:List Frame) (nt:Nat) (ops:Array Oper) (rest:List Nat) (k:List Item) (op:Oper) (env:aa) (s φ:Nat) (ς:aN) (v:Value):Prop:=
 ad (kj P Q mn {y with view:=upd y.view s (some (φ,ς))}) b cs nt (.inRegion ops rest::k) (ca op env (.z v))
def EM (P:Program) (Q:Value->Prop) (mn:Bool) (y:aV) (b:Frame) (cs:List Frame) (nt:Nat) (ops:Array Oper) (rest:List Nat) (k:List Item) (op:Oper) (env:aa) (s φ:Nat) (ς:aN) (v:Value) (o':aN) (t':Tok):Prop:=
 Act ς (y.tok s) o' t'/\∀cl,cl<φ->ad (kj P Q mn {y with tok:=upd y.tok s t',view:=upd y.view s (some (cl,o'))}) b cs nt (.inRegion ops rest::k) (ca op env (.z v))
theorem ad.ext (U:eL y) {s:Nat} {sp:Spec} (bU:y.spec s=some sp) (cH:¬fU (y.tok s)) (h:gS P b ops i op f e args env vs nt)
  (aU:∀(w:World) (φ:Nat) (ς:aN),Seen y s sp φ ς->At s ς w->
   (∃v w' gi,(e vs.toArray).run P w=.ok v w'/\(e vs.toArray).events P w #[⟨.mark (Mark.extern f),false,true⟩]=#[⟨.mark (Mark.extern f),false,true⟩]++gi/\(∀y∈gi,y.sync=true/\∀g,y.loc≠.mark (Mark.extern g))/\
    fq (λΧ _=>eb s sp Χ) (λ_=>False) w w'/\oN s sp y.deaf gi/\
    ((At s ς w'/\Ji P Q mn y b cs nt ops rest k op env s φ ς v)\/∃o' t',At s o' w'/\EM P Q mn y b cs nt ops rest k op env s φ ς v o' t'))) :
  ad (kj P Q mn y) b cs nt (.inRegion ops (i::rest)::k) env:=by
 obtain⟨dS,Ν⟩:=h.call;intro t J γ;refine⟨⟨rfl,rfl⟩,Goes.step U.ok (.inr ⟨⟨rfl,rfl⟩,.inr (.inr (.inr (.inl ⟨s,sp,bU,cH,λw φ ς Φ hv Γ bB nZ IN=>?_⟩)))⟩)⟩;obtain⟨v,w',gi,a1,bl,cz,gb,hA,md⟩:=aU w φ ς ⟨Γ,nZ,IN⟩ bB;have cA:=Em (mn:=mn) (cs:=cs) (rest:=rest) (k:=k) h.kX h.at_ (j3 γ h.want) Ν (h.AB.bs γ) a1 bl cz;refine .inl ?_;rw[cA];obtain⟨s2,s1⟩:=re γ h.dst J (a:=.z v) (v:=v) (.z _);refine⟨⟨rfl,rfl⟩,gb,hA,?_⟩;rcases md with⟨aA,bc⟩|⟨o',t',aA,bc,gK⟩
 ·exact .inl ⟨aA,(bc _ s1 s2).2⟩
 ·exact .inr ⟨o',t',bc,aA,.inl (OX h.kX h.at_ Ν),λcl eg=>(gK cl eg _ s1 s2).2⟩
section
variable {s:Nat} {sp:Spec} (U:eL y) (hd:0<y.deaf) (bU:y.spec s=some sp) (cH:¬fU (y.tok s))
include U hd bU cH
theorem ad.IP (h:gS P b ops i op f (Extern.Atomic.loadT (.int .u64)) args env [.pointer (some ⟨s,0,none⟩)] nt)
  (dk:∀φ ς,Seen y s sp φ ς->Ji P Q mn y b cs nt ops rest k op env s φ ς (.int .u64 (cM ς))):ad (kj P Q mn y) b cs nt (.inRegion ops (i::rest)::k) env:=by
 refine .ext U bU cH h λw φ ς ο bB=>?_;have ζ:=bB.cP;refine⟨.int .u64 (cM ς),w,#[⟨.cell ⟨s,0,none⟩,false,true⟩],?_,?_,rF (rE _ false),fq.refl _ _ _,rC (.inl rfl) hd (rE _ false),.inl ⟨bB,dk φ ς ο⟩⟩
 ·change Sem.run P (do Extern.Atomic.read (.int .u64) (<-asAddr (.pointer (some _)))) w=_;simp[Extern.Atomic.read,asAddr,ζ]
 ·change Sem.events P (do Extern.Atomic.read (.int .u64) (<-asAddr (.pointer (some _)))) w _=_;simp[Extern.Atomic.read,asAddr,ζ,events_load]
theorem ad.IQ {d:Int} (h:gS P b ops i op f (Extern.Atomic.update (Op.intArith .add) .u64 true) args env [.pointer (some ⟨s,0,none⟩),.int .u64 d] nt)
  (dk:∀φ ς,Seen y s sp φ ς->∃o' t',cM o'=IntKind.u64.wrap (cM ς+d)/\o'.cE=ς.cE/\rG ς o'/\EM P Q mn y b cs nt ops rest k op env s φ ς (.int .u64 (cM o')) o' t') :
  ad (kj P Q mn y) b cs nt (.inRegion ops (i::rest)::k) env:=by
 refine .ext U bU cH h λw φ ς ο bB=>?_;have ζ:=bB.cP;have Θ:=bB.uF 0;obtain⟨o',t',J,γ,π,Μ⟩:=dk φ ς ο;rw[J] at Μ;refine⟨_,_,_,run_add_entry ζ Θ,(events_add_entry ζ Θ _).trans rfl,rF (rD ⟨s,0,none⟩),bB.yb _,rC (.inl rfl) hd (rD ⟨s,0,none⟩),.inr ⟨o',t',bB.ya π.aT π.g π.w ?_,Μ⟩⟩;rw[J,γ];rfl
theorem ad.aΑ {d:Int} (h:gS P b ops i op f Extern.Atomic.storeT args env [.pointer (some ⟨s,0,none⟩),.int .u64 d] nt)
  (dk:∀φ ς,Seen y s sp φ ς->∃o' t',cM o'=d/\o'.cE=ς.cE/\rG ς o'/\EM P Q mn y b cs nt ops rest k op env s φ ς (.tuple #[]) o' t') :
  ad (kj P Q mn y) b cs nt (.inRegion ops (i::rest)::k) env:=by
 refine .ext U bU cH h λw φ ς ο bB=>?_;have ζ:=bB.cP;have Θ:=bB.uF 0;obtain⟨o',t',J,γ,π,Μ⟩:=dk φ ς ο;refine⟨.tuple #[],w.setCell ⟨s,0,none⟩ (.int .u64 d),#[⟨.cell ⟨s,0,none⟩,true,true⟩],?_,?_,rF (rE _ true),bB.yb _,rC (.inl rfl) hd (rE _ true),.inr ⟨o',t',bB.ya π.aT π.g π.w (by rw[J,γ];rfl),Μ⟩⟩
 ·change Sem.run P (do
   store (<-asAddr (.pointer (some _))) (.int .u64 d) .atomic
   pure Extern.Atomic.none_) w=_
  simp[asAddr,ζ,Θ,run_store P w _ (.int .u64 d) .atomic rfl,Result.andThen,Extern.Atomic.none_]
 ·change Sem.events P (do
   store (<-asAddr (.pointer (some _))) (.int .u64 d) .atomic
   pure Extern.Atomic.none_) w _=_
  simp[asAddr,ζ,Θ,events_store P w _ _ (.int .u64 d) .atomic rfl]
end
section
variable {s:Nat} {sp:Spec} (U:eL y) (bU:y.spec s=some sp) (cH:¬fU (y.tok s))
include U bU cH
theorem ad.aΒ (ag:vs[0]?=some (.pointer (some ⟨s,1,none⟩))) (h:gS P b ops i op f Extern.Sync.semrelease args env vs nt)
  (dk:∀φ ς,Seen y s sp φ ς->ς.cE<1000/\∃o' t',cM o'=cM ς/\o'.cE=ς.cE+1/\rG ς o'/\EM P Q mn y b cs nt ops rest k op env s φ ς (.tuple #[]) o' t') :
  ad (kj P Q mn y) b cs nt (.inRegion ops (i::rest)::k) env:=by
 refine .ext U bU cH h λw φ ς ο bB=>?_;have ζ:=bB.Τ;obtain⟨aD,o',t',J,γ,π,Μ⟩:=dk φ ς ο;refine⟨_,_,_,O6 ag ζ (bB.uF 1),O7 ag ζ (bB.uF 1) _,semEvents_sync _,bB.yb _,Eu (.inl rfl),.inr ⟨o',t',bB.ya π.aT π.g π.w ?_,Μ⟩⟩;rw[J,γ,show IntKind.u32.wrap (((ς.cE:Nat):Int)+1)=((ς.cE+1:Nat):Int) by simp only[IntKind.wrap_u32];omega];rfl
end
theorem PM {t:Array Value} (hb:b.mode=.run) (cd:b.roundOf=none) (eC:b.defers=[Go.Conc.dcall f #[]]) (gJ:b.kind=.normal) {fn:Func} (cf:P.funcs[b.fn]?=some fn) (eT:fn.results=#[]) (he:Entry P f (λ_=>do mark .enable;pure Extern.Race.none_)) {c:Frame}
  (h:k9 P 0 (Go.Conc.G (c.finish (.tuple #[])) cs)):k9 P 1 (Go.Conc.G {ar b t k with mode:=.returning} (c::cs)):=by
 obtain⟨lΖ,Ζ,Ε,aY,cy,eZ⟩:=he;obtain⟨n,Η⟩:=h;rw[gA hb cd];refine⟨n+1+1,QuitsD.unwind_mark (a:=⟨t,b.defers⟩) (ds:=[]) .enable rfl (by simp) eC Ζ Ε aY cy eZ ?_⟩;exact .ctl rfl (λw=>stepG_leave (a:=⟨t,[]⟩) gJ rfl cf (Go.results_none eT _ P w) (Go.Conc.events_results_none eT _ _)) Η
theorem ad.Jb (hb:b.mode=.run) (cd:b.roundOf=none) (eC:b.defers=[Go.Conc.dcall f #[]]) (gJ:b.kind=.normal) {fn:Func} (cf:P.funcs[b.fn]?=some fn) (eT:fn.results=#[]) (he:Entry P f (λ_=>do mark .enable;pure Extern.Race.none_)) {c:Frame}
  (h:k9 P 0 (Go.Conc.G (c.finish (.tuple #[])) cs)):ad (k9 P 1) b (c::cs) nt (.code .ret::k) env:=λt _ _=>by
 refine dN _ (Go.Conc.G {ar b t (.code .ret::k) with mode:=.returning} (c::cs)) ⟨rfl,rfl⟩ (λw=>?_) (PM hb cd eC gJ cf eT he h);rw[iV hb];unfold stepG.exec;simp only[ar,cd];rfl
theorem ad.aΓ (hb:b.mode=.run) (cd:b.roundOf=none) (eC:b.defers=[Go.Conc.dcall f #[]]) (gJ:b.kind=.normal) {fn:Func} (cf:P.funcs[b.fn]?=some fn) (eT:fn.results=#[]) (he:Entry P f (λ_=>do mark .enable;pure Extern.Race.none_)) {c:Frame}
  (h:k9 P 0 (Go.Conc.G (c.finish (.tuple #[])) cs)):ad (k9 P 1) b (c::cs) nt [] env:=λt _ _=>by
 refine dN _ (Go.Conc.G {ar b t [] with mode:=.returning} (c::cs)) ⟨rfl,rfl⟩ (λw=>?_) (PM hb cd eC gJ cf eT he h);rw[iV hb];unfold stepG.exec;simp only[ar,cd];rfl
end
def ym (x:aV):aV:={x with aF:=λ_=>none,rel:=true}
theorem V.GJ {P:Program} {Q:Value->Prop} {x:aV} {b:Frame} {cs:List Frame} {nt:Nat} {o:Base} {k:List Item} {env:aa} {ops:Array Oper} {i:Nat} {rest:List Nat} {op:Oper} {f:FuncId} {args:Array Operand} (U:x.rel=false) {s n:Nat} {sp:Spec} {mu:lr} {v:Option (Nat×aN)} (bU:x.spec s=some sp) (tB:mu=.done\/(mu=.idle/\sp.aT=none)) (cH:∀bq,bq≠s->fU (x.tok bq)) (dQ:sp.D n Α.empty)
  (h:gS P b ops i op f (Extern.Race.marked .releaseMerge) args env [.pointer (some ⟨s,0,none⟩)] nt) (he:∀p∈ca op env ot,∃v,p.2=θ.z v)
  (χ:ad (kj P Q false (bw (ym x) s (.ch n mu .rel) none 0)) b cs nt (.inRegion ops rest::k) (ca op env ot)):V P Q false (one (bw x s (.ch n mu .work) v 0)) b cs nt o (.inRegion ops (i::rest)::k) env []:=by
 intro S B H t ξ ψ y Ξ;cases Ξ;have mO:=ψ.put h.dst (a:=ot) (v:=.tuple #[]) (.z _);have Υ:=(χ _ mO.size (AP he mO.cp)).2;refine Goes.step (eL.ok (.inl U)) (.inr ⟨⟨rfl,rfl⟩,.inr (.inr (.inr (.inr (.inr (.inr (.inl ⟨s,sp,n,mu,Go.Conc.G (ar b (put op t (.tuple #[])) (.inRegion ops rest::k)) cs,Α.empty,bU,b2 (v:=v) (d:=0),tB,λbq iM=>by
  rw[show({bw x s (.ch n mu .work) v 0 with G:=H}:aV).tok bq=(bw x s (.ch n mu .work) v 0).tok bq from rfl,AG iM];exact cH bq iM,rfl,⟨rfl,rfl⟩,U,λw _=>
  h.step ψ.cp (x8 .releaseMerge _) (x9 .releaseMerge _ _) (rB (by simp)),⟨λb o v p ζ=>(by cases ζ),λb y ζ=>(by cases ζ),λb y ζ=>(by cases ζ)⟩,dQ,?_⟩))))))⟩)
 have e:({({bw x s (.ch n mu .work) v 0 with G:=H}:aV) with G:=Α.empty,aF:=λ_=>none,tok:=upd ({bw x s (.ch n mu .work) v 0 with G:=H}:aV).tok s (.ch n mu .rel),view:=upd ({bw x s (.ch n mu .work) v 0 with G:=H}:aV).view s none,rel:=true}:aV)={bw (ym x) s (.ch n mu .rel) none 0 with G:=Α.empty}:=by
  unfold bw ym;simp only[IU]
 exact e▸Υ
end Go.TL
