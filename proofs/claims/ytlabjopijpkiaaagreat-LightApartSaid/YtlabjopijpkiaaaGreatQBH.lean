import Derived.Test.YtlabjopijpkiaaaGreatQBG
set_option maxHeartbeats 16000000
set_option maxRecDepth 20000
set_option linter.unusedSectionVars false
set_option linter.unusedSimpArgs false
set_option linter.unusedVariables false
namespace Go.TL
open Go.Conc Go.Proofs
open Go.ConcN (sumTo upd sumTo_upd upd_ne upd_same sumTo_congr le_sumTo)
structure iK (x:aR) (s m:Nat) (sp:Spec):Prop where
 rel:x.rel=false
 aC:x.aC=fun _=>none
 spec:x.spec s=some sp
 aQ:sp.aQ=some m
 top:sp.top<7
 still:∀bj,bj≠s→ml (x.tok bj)
theorem iK.seq {x:aR} {s m:Nat} {sp:Spec} (h:iK x s m sp):∀t v d,@Seq eF (one (br x s t v d)):=fun t v d=>@Seq.tf eF _ trivial h.rel h.aC
theorem cf.WU [bd] {P:Program} {Q:Value→Prop} {mn:Bool} {x:aR} {c b:Frame} {rest:List Frame} {H:ψ} {t:Array Value} {ops:Array Oper} {k:List Item} {fn:Func} (δ:Seq (one x)) (hb:b.mode=.run) (b7:b.roundOf=none) (et:b.defers=[]) (gu:b.kind=.normal) (b':P.funcs[b.fn]?=some fn) (eL:fn.results=#[])
  (h:cf P Q mn x (c.finish (.tuple #[])) rest H):cf P Q mn x (ao b t (.inRegion ops []::.code .ret::k)) (c::rest) H:=by
 refine aJ.bB (x:=one x) δ hb (.ret δ hb b7 (.back δ rfl et (.inl gu) b' ?_)) x rfl;rw[results_none eL];exact ς.pure' (fun y Ο=>by cases Ο;exact h)
abbrev ptr (b o:Nat):Value:=.pointer (some ⟨b,o,none⟩)
section
variable {Q:Value→Prop} {mn:Bool} {x:aR} {c:Frame} {rest:List Frame} {S:aA} {B:aN} {σ:List Row} {H:ψ} {s m k:Nat} {sp:Spec} {v:Option (Nat×aK)}
def r6 (Q:Value→Prop) (mn:Bool) (x:aR) (c:Frame) (rest:List Frame) (S:aA) (H:ψ) (s k:Nat) (sp:Spec):Prop:=
 ∀(au:aA) (H':ψ) (L:List Nat) (E:ψ),Ext S [] H au [] H'→Holds au [] [] H'→sp.aG L E→Apart H' E→(L.Nodup∧k∉L∧∃w,Fits H' w∧Fits E w)→cf Tryz.prog Q mn (br x s (.ch k (.c5 L) .work) none 0) (c.finish (.tuple #[])) rest (join H' E)
def M5 (Q:Value→Prop) (mn:Bool) (x:aR) (s m k:Nat) (sp:Spec):Prop:=∀(c:Frame) (rest:List Frame) (S:aA) (B:aN) (σ:List Row) (H:ψ) (v:Option (Nat×aK)),Holds S B σ H→r6 Q mn x c rest S H s k sp→
 cf Tryz.prog Q mn (br x s (.ch k (.act false) .work) v 1) (Frame.enter Tryz.prog 213 #[ptr m 0] .normal) (c::rest) H
theorem WV (η:iK x s m sp) (Α:Holds S B σ H) (WW:M5 Q mn x s m k sp)
  (Ζ:r6 Q mn x c rest S H s k sp):cf Tryz.prog Q mn (br x s (.ch k .idle .work) v 0) (Frame.enter Tryz.prog 175 #[ptr m 0] .normal) (c::rest) H:=by
 letI:bd:=eF;have δ:=η.seq;refine V.pz (z:=one _) (vs:=[ptr m 0]) Tryz.func175 rfl Α (by simp[Tryz.ntmps175]) ?_ _ rfl;refine V.a' (δ _ _ _) rfl ?_
 repeat first|apply aV|apply wb|apply aX|apply wd
 refine W.ca (.stop ?_);refine V.disable (δ _ _ _).here ⟨⟨rfl,rfl,by simp[Frame.enter],rfl⟩,zC,⟨_,rfl⟩,rfl,rfl,rfl⟩ ?_;rw[zy];refine V.a' (δ _ _ _) rfl ?_;refine W.bB ?_
 repeat first|apply aV|apply wb|apply aX|apply wd
 refine W.ca ?_;refine W.part (A:=[]) Θ [0,1,2] [3] rfl fun J I=>?_;(try simp);(repeat (rw[ζ];simp));apply I;clear I J;refine W.stop ?_;refine V.C9 (δ _ _ _).here (Nat.succ_pos _) (sp:=sp) η.spec (by rw[bZ];exact id) η.aQ ⟨⟨rfl,rfl,by simp[Frame.enter],rfl⟩,Df,⟨_,rfl⟩,rfl,rfl,rfl⟩ (fun φ π ξ hv=>?_) (fun φ π ξ hv=>?_)
 ·refine .inr ⟨.ch k (.act false) .work,by rw[bZ];exact .P3,fun cb _=>?_⟩;rw[gD];refine V.a' (δ _ _ _) rfl ?_;refine W.bB ?_
  repeat first|apply aV|apply wb|apply aX|apply wd
  refine ah rfl ?_
  repeat first|apply aV|apply wb|apply aX|apply wd
  refine W.ca ?_;refine W.part (A:=[]) Θ [0] [1] rfl fun J I=>?_;(try simp);(repeat (rw[ζ];simp));apply I;clear I J;refine W.stop ?_;refine V.call (δ _ _ _) ⟨rfl,rfl,by simp[Frame.enter],rfl⟩ rfl rfl rfl ⟨_,Tryz.func213,rfl,rfl⟩ fun bE bK H1 t1 oq μ χ hv=>?_;obtain rfl:=l4 (l:=[ptr m 0]) hv;rintro y rfl;refine WW _ _ bE bK _ H1 _ χ.holds fun cO bJ L E ku iA da h5 va=>?_;rw[hO rfl];refine cf.leave0 (δ _ _ _) rfl rfl rfl rfl Tryz.func175 rfl ?_;obtain rfl:bK=[]:=dq.1 χ.holds.len;exact Ζ cO bJ L E (μ.ext.trans ku) iA da h5 va
 ·have ae:π.b6=0∧π.sv=0∧π.wk=0∧π.nw=0:=by simp only[mwd] at hv;omega
  refine⟨{π with b6:=1},.ch k .own .work,by simp[mwd];omega,rfl,⟨rfl,rfl,rfl⟩,by rw[bZ];exact .P2 ae.1 ae.2.1 ae.2.2.1 ae.2.2.2,fun cb _=>?_⟩;rw[gD];refine V.a' (δ _ _ _) rfl ?_;refine W.bB ?_
  repeat first|apply aV|apply wb|apply aX|apply wd
  refine al rfl ?_
  repeat first|apply aV|apply wb|apply aX|apply wd
  refine al rfl ?_
  repeat first|apply aV|apply wb|apply aX|apply wd
  refine W.ca (.stop ?_);refine V.enable (δ _ _ _).here (Nat.succ_pos _) ⟨⟨rfl,rfl,by simp[Frame.enter],rfl⟩,th,⟨_,rfl⟩,rfl,rfl,rfl⟩ ?_;rw[zz];refine V.a' (δ _ _ _) rfl ?_;refine W.bB ?_
  repeat first|apply aV|apply wb|apply aX|apply wd
  refine W.ca ?_;refine W.part (A:=[]) Θ [0] [1,2] rfl fun J I=>?_;(try simp);(repeat (rw[ζ];simp));apply I;clear I J;refine W.stop ?_;refine V.conv (δ _ _ _).here (sp:=sp) η.spec (by rw[bZ];exact id) ⟨rfl,rfl,by simp[Frame.enter],rfl⟩ rfl rfl rfl Hp ti Hq rfl (fun π w Β bx=>⟨_,bx.du (by rw[Β];exact η.aQ)⟩) (fun φ π ξ=>?_);unfold hG;rw[jF];refine V.A5 η.rel rfl (sp:=sp) η.spec η.aQ bZ ⟨⟨rfl,rfl,by simp[Frame.enter],rfl⟩,De,⟨_,rfl⟩,rfl,rfl,rfl⟩ fun bE bK H1 t1 L E μ χ da h5 va=>?_;rw[gD];obtain rfl:bK=[]:=dq.1 χ.holds.len;refine cf.WU (δ _ _ _) rfl rfl rfl rfl Tryz.func175 rfl ?_;exact Ζ bE H1 L E μ.ext χ.holds da h5 va
end
def dx:List Nat→Code→Code
 | [],c=>c
 | 0::l,.seq a _=>dx l a
 | _::l,.seq _ b=>dx l b
 | 0::l,.cond _ a _=>dx l a
 | _::l,.cond _ _ b=>dx l b
 | _::l,.block _ c=>dx l c
 | _::l,.loop c=>dx l c
 | _,c=>c
noncomputable def pE:Code:=Tryz.f213.body.getD .skip
noncomputable def l6:Code:=dx [1,1,1,1,1,0,0,0] pE
noncomputable def pF:Code:=dx [0,1] l6
noncomputable def qH:Code:=dx [1,1,1,1,1] pF
noncomputable def l7:Code:=dx [1,0] qH
noncomputable def zD:Code:=dx [1,1,1,1,1,1] pE
noncomputable def kv:List Item:=[.inLoop l6,.inBlock 0,.code zD]
abbrev jk (Q:Value→Prop) (mn:Bool) (x:aR) (c:Frame) (rest:List Frame) (S:aA) (H:ψ) (s m:Nat) (t:Tok) (v:Option (Nat×aK)) (d:Nat) (K:List Item) (env:Χ):Prop:=
 V Tryz.prog Q mn (one (br x s t v d)) (Frame.enter Tryz.prog 213 #[ptr m 0] .normal) (c::rest) 139 ⟨S,[],H,[],0⟩ K env []
def cL (m:Nat) (w:Int) (aw st:Bool) (it τ:Int):Χ:=[(0,.z (ptr m 0)),(2,.z (.int .i64 τ)),(3,.z (.bool st)),(4,.z (.bool aw)),(5,.z (.int .i64 it)),(6,.z (.int .i32 w))]
def oD (a b c n:Nat) (aw st:Bool):Int:=
 if a=0∧c=0 then gE 1 (if aw then 0 else b) 0 n else gE a (if aw then 0 else b) (if st=true∧a=1 then 1 else c) (n+1)
section
variable {Q:Value→Prop} {mn:Bool} {x:aR} {c:Frame} {rest:List Frame} {S:aA} {B:aN} {σ:List Row} {H:ψ} {s m k:Nat} {sp:Spec} {v:Option (Nat×aK)} {t:Tok}
theorem WX (η:iK x s m sp) {a b dr n:Nat} {aw st:Bool} {it τ:Int} (μ:a<2) (hb:b<2) (jP:dr<2) (Η:n<7) (WY:aw=true→dr=0∧b=1) (cg:st=true→aw=true)
  (hC:jk Q mn x c rest S H s m t v 1 (.code (dx [0] qH)::.code (dx [1] qH)::.inBlock 1::kv) (cL m (gE a b dr n) aw st it τ++[(7,.z (.int .i32 (oD a b dr n aw st)))])) :
  jk Q mn x c rest S H s m t v 1 (.code pF::.inBlock 1::kv) (cL m (gE a b dr n) aw st it τ):=by
 letI:bd:=eF;have δ:=η.seq;have hx:(a=0∨a=1)∧(dr=0∨dr=1):=by omega
 have cu:=Hm a μ b hb dr jP n (by omega)
 have eR:=Hl a μ b hb dr jP n (by omega)
 have Ε:=WE a μ b hb dr jP n (by omega)
 have dw:=WG a μ b hb dr jP n (by omega)
 have tj:=WJ a μ b hb dr jP n Η;refine V.a' (δ _ _ _) rfl ?_;unfold pF l6 pE;cases aw with
 | false=>
  have ξ:st=false:=by cases st<;>simp_all
  subst ξ;rcases hx with⟨rfl|rfl,rfl|rfl⟩
  ·(repeat (first|apply aV|apply wb|apply aX|apply wd|refine al rfl ?_|refine ah rfl ?_|(refine ν fun J I=>?_;simp;(repeat (rw[ζ];simp[cL,cu,eR,dw]));apply I;clear I J)));exact W.forget _ (by simp[cL,oD]) (.stop hC)
  ·(repeat (first|apply aV|apply wb|apply aX|apply wd|refine al rfl ?_|refine ah rfl ?_|(refine ν fun J I=>?_;simp;(repeat (rw[ζ];simp[cL,cu,eR,tj]));apply I;clear I J)));exact W.forget _ (by simp[cL,oD]) (.stop hC)
  ·(repeat (first|apply aV|apply wb|apply aX|apply wd|refine al rfl ?_|refine ah rfl ?_|(refine ν fun J I=>?_;simp;(repeat (rw[ζ];simp[cL,cu,eR,dw,tj]));apply I;clear I J)));exact W.forget _ (by simp[cL,oD]) (.stop hC)
  ·(repeat (first|apply aV|apply wb|apply aX|apply wd|refine al rfl ?_|refine ah rfl ?_|(refine ν fun J I=>?_;simp;(repeat (rw[ζ];simp[cL,cu,eR,tj]));apply I;clear I J)));exact W.forget _ (by simp[cL,oD]) (.stop hC)
 | true=>
  obtain⟨rfl,rfl⟩:=WY rfl;rcases hx with⟨rfl|rfl,-⟩
  ·have ef:=Dd 1 (by omega) 1 (by omega) 0 (by omega) n (by omega)
   have p2:=Hn 1 (by omega) 1 (by omega) 0 (by omega) n (by omega);cases st
   ·(repeat (first|apply aV|apply wb|apply aX|apply wd|refine al rfl ?_|refine ah rfl ?_|(refine ν fun J I=>?_;simp;(repeat (rw[ζ];simp[cL,cu,eR,dw,ef,p2]));apply I;clear I J)));exact W.forget _ (by simp[cL,oD]) (.stop hC)
   ·(repeat (first|apply aV|apply wb|apply aX|apply wd|refine al rfl ?_|refine ah rfl ?_|(refine ν fun J I=>?_;simp;(repeat (rw[ζ];simp[cL,cu,eR,Ε,dw,ef,p2]));apply I;clear I J)));exact W.forget _ (by simp[cL,oD]) (.stop hC)
  ·cases st
   ·have ef:=Dd 1 (by omega) 1 (by omega) 0 (by omega) (n+1) (by omega)
    have p2:=Hn 1 (by omega) 1 (by omega) 0 (by omega) (n+1) (by omega);(repeat (first|apply aV|apply wb|apply aX|apply wd|refine al rfl ?_|refine ah rfl ?_|(refine ν fun J I=>?_;simp;(repeat (rw[ζ];simp[cL,cu,eR,dw,tj,ef,p2]));apply I;clear I J)));exact W.forget _ (by simp[cL,oD]) (.stop hC)
   ·have iv:=WI 1 (by omega) 1 (by omega) 0 (by omega) (n+1) (by omega)
    have ef:=Dd 1 (by omega) 1 (by omega) 1 (by omega) (n+1) (by omega)
    have p2:=Hn 1 (by omega) 1 (by omega) 1 (by omega) (n+1) (by omega);(repeat (first|apply aV|apply wb|apply aX|apply wd|refine al rfl ?_|refine ah rfl ?_|(refine ν fun J I=>?_;simp;(repeat (rw[ζ];simp[cL,cu,eR,Ε,dw,tj,iv,ef,p2]));apply I;clear I J)));exact W.forget _ (by simp[cL,oD]) (.stop hC)
theorem M6 (η:iK x s m sp) (Ζ:r6 Q mn x c rest S H s k sp) {env:Χ} (ae:a5 env 0=.z (ptr m 0)):jk Q mn x c rest S H s m (.ch k .own .work) v 1 [.code zD] env:=by
 letI:bd:=eF;have δ:=η.seq;refine V.a' (δ _ _ _) rfl ?_;unfold zD pE;refine al rfl ?_
 repeat first|apply aV|apply wb|apply aX|apply wd
 refine W.ca (.stop ?_);refine V.enable (δ _ _ _).here (Nat.succ_pos _) ⟨⟨rfl,rfl,by simp[Frame.enter],rfl⟩,th,⟨_,rfl⟩,rfl,rfl,rfl⟩ ?_;rw[zz];refine V.a' (δ _ _ _) rfl ?_;refine W.bB ?_
 repeat first|apply aV|apply wb|apply aX|apply wd
 refine W.ca ?_;refine W.part (A:=[]) Θ [0] [1,2] rfl fun J I=>?_;simp;(repeat (rw[ζ];simp[ae]));apply I;clear I J;refine W.stop ?_;refine V.conv (δ _ _ _).here (sp:=sp) η.spec (by rw[bZ];exact id) ⟨rfl,rfl,by simp[Frame.enter],rfl⟩ rfl rfl rfl Hp ti Hq rfl (fun π w Β bx=>⟨_,bx.du (by rw[Β];exact η.aQ)⟩) (fun φ π ξ=>?_);unfold hG;rw[jF];refine V.A5 η.rel rfl (sp:=sp) η.spec η.aQ bZ ⟨⟨rfl,rfl,by simp[Frame.enter],rfl⟩,De,⟨_,rfl⟩,rfl,rfl,rfl⟩ fun bE bK H1 t1 L E μ χ da h5 va=>?_;rw[gD];obtain rfl:bK=[]:=dq.1 χ.holds.len;refine cf.leave0 (δ _ _ _) rfl rfl rfl rfl Tryz.func213 rfl ?_;exact Ζ bE H1 L E μ.ext χ.holds da h5 va
end
section
variable {Q:Value→Prop} {mn:Bool} {x:aR} {c:Frame} {rest:List Frame} {S:aA} {B:aN} {σ:List Row} {H:ψ} {s m k:Nat} {sp:Spec} {v:Option (Nat×aK)} {t:Tok}
theorem Dg:(Tryz.prog.funcs[213]?).any (·.norace)=true:=by kernel_rfl
theorem M7:(Tryz.prog.funcs[245]?).any (·.norace)=true:=by kernel_rfl
def zE (Q:Value→Prop) (mn:Bool) (x:aR) (c:Frame) (rest:List Frame) (S:aA) (H:ψ) (s m k:Nat) (sp:Spec) (φ:Nat):Prop:=
 ∀(cb:Nat) (π:aK) (aw st:Bool) (it τ:Int),cb<φ→π.toSpec=sp→rZ π (.ch k (.act aw) .work)→(st=true→aw=true)→0≤it→it≤4→jk Q mn x c rest S H s m (.ch k (.act aw) .work) (some (cb,π)) 1 kv (cL m (mwd π) aw st it τ)
theorem M8 {π:aK} {aw:Bool} (h:rZ π (.ch k (.act aw) .work)):aw=true→π.sv=0∧π.wk=1:=fun e=>h.AA (by rw[e];rfl)
theorem WZ (η:iK x s m sp) (Ζ:r6 Q mn x c rest S H s k sp) {φ:Nat} (Γ:zE Q mn x c rest S H s m k sp φ) {gi:Nat} {kx:aK} (ae:gi<φ) {st:Bool} {τ:Int} :
  jk Q mn x c rest S H s m (.ch k .wk .work) (some (gi,kx)) 1 (.code (dx [1,1,1,1,1] l7)::.inBlock 1::kv) [(0,.z (ptr m 0)),(2,.z (.int .i64 τ)),(3,.z (.bool st))]:=by
 letI:bd:=eF;have δ:=η.seq;refine V.a' (δ _ _ _) rfl ?_;unfold l7 qH pF l6 pE
 repeat first|apply aV|apply wb|apply aX|apply wd
 refine W.ca ?_;refine W.part (A:=[]) Θ [0,1,2] [3,4] rfl fun J I=>?_;(try simp);(repeat (rw[ζ];simp));apply I;clear I J;refine W.stop ?_;refine V.w6 (δ _ _ _).here (sp:=sp) η.spec (by rw[bZ];exact id) ⟨rfl,rfl,by simp[Frame.enter],rfl⟩ rfl rfl rfl w7 rfl Dg mwd (fun π w Β bx=>bx.du (by rw[Β];exact η.aQ)) (fun gF π ξ=>.inr ?_);have υ:=ξ.iJ.mm;rw[bZ] at υ;have hv:=ξ.view gi kx oB;have M9:=υ.xR rfl;have gg:π.top<7:=by have:=η.top;rw[show π.top=sp.top by rw[←ξ.spec]];exact this
 have Η:=υ.nw
 have ω:=υ.b6;have hw:=υ.wk;have pv:=υ.sv
 have cu:=Hm π.b6 (by omega) π.wk (by omega) π.sv (by omega) π.nw (by omega)
 have a4:=WB π.b6 (by omega) π.wk (by omega) π.sv (by omega) π.nw (by omega)
 have lb:=Ho π.b6 (by omega) π.wk (by omega) π.sv (by omega) π.nw (by omega);rw[←oC] at cu a4 lb;rcases(show π.sv=0∨π.sv=1 by omega) with mN|mN
 ·refine⟨.ch k (.act true) .work,by rw[bZ];exact .norm mN,fun cb ec=>?_⟩;rw[gD];rw[mN] at cu;refine V.a' (δ _ _ _) rfl ?_;refine W.part (A:=[]) Θ [4] [] rfl fun J I=>?_;(try simp);(repeat (rw[ζ];simp));(try simp[]);apply I;clear I J;refine W.bB ?_;(repeat (first|apply aV|apply wb|apply aX|apply wd|refine al rfl ?_|refine ah rfl ?_|(refine ν fun J I=>?_;simp;(repeat (rw[ζ];simp[cu]));apply I;clear I J)));refine W.forget (cL m (mwd π) true st 0 τ) (by simp[cL]) (.stop ?_);exact Γ cb π true st 0 τ (by omega) ξ.spec ⟨υ.b6,υ.wk,υ.sv,υ.cR,υ.nw,fun _=>⟨mN,M9.1 mN⟩,fun h=>(by cases h),fun h=>(by cases h),fun h=>(by cases h)⟩ (fun _=>rfl) (by omega) (by omega)
 ·obtain⟨Ξ,ad,aT⟩:=M9.2 mN;refine⟨.ch k .hw .work,by rw[bZ];exact .hand mN,fun cb ec=>?_⟩;rw[gD];rw[mN] at cu;rw[Ξ,ad] at a4;have bu:¬π.nw=0:=by omega
  have M':IntKind.i32.wrap (-11)=-11:=by decide
  have fin:∀(w:Option (Nat×aK)) (env:Χ),a5 env 0=.z (ptr m 0)→jk Q mn x c rest S H s m (.ch k .own .work) w 1 [.code zD] env:=fun w env h=>M6 η Ζ h
  have add:∀(pT:Bool) (env:Χ),a5 env 0=.z (ptr m 0)→a5 env 9=.z (.int .i32 (if pT then -11 else -7))→jk Q mn x c rest S H s m (.ch k .hw .work) (some (cb,π)) 1 (.code (dx [1,1,1,1,1,1,0,1,0,1,1,1,0] l7)::.code (dx [1,1,1,1,1,1,0,1,0,1,1,1,1] l7)::.code (dx [1,1,1,1,1,1,1] l7)::.inBlock 1::kv) env:=fun pT env ae sk=>by
   refine V.a' (δ _ _ _) rfl ?_;unfold l7 qH pF l6 pE
   repeat first|apply aV|apply wb|apply aX|apply wd
   refine W.ca ?_;refine W.part (A:=[]) Θ [0,1,2,3] [4] rfl fun J I=>?_;(try simp);(repeat (rw[ζ];simp[ae,sk]));(try simp[ae,sk]);apply I;clear I J;refine W.stop ?_;refine V.MK (δ _ _ _).here (Nat.succ_pos _) (sp:=sp) η.spec (by rw[bZ];exact id) η.aQ (d:=if pT then -11 else -7) ⟨⟨rfl,rfl,by simp[Frame.enter],rfl⟩,MX,⟨_,rfl⟩,rfl,rfl,rfl⟩ (fun hn fr dI=>?_);have eU:=dI.iJ.mm;rw[bZ] at eU;obtain⟨f1,f2,f3,f4⟩:=eU.hw rfl;have gθ:fr.top<7:=by have:=η.top;rw[show fr.top=sp.top by rw[←dI.spec]];exact this
   have zl:=eU.nw;refine⟨{fr with b6:=1,nw:=fr.nw-1,sv:=if pT then 0 else 1},.ch k .own .work,?_,rfl,⟨rfl,rfl,rfl⟩,by rw[bZ];exact .hacq pT,fun w8 _=>?_⟩
   ·cases pT<;>simp[mwd,IntKind.wrap_i32,f1,f2,f3]<;>omega
   ·rw[gD];refine V.a' (δ _ _ _) rfl ?_;refine W.bB ?_
    repeat first|apply aV|apply wb|apply aX|apply wd
    refine W.exit rfl (.stop ?_);refine fin _ _ ?_;simp[ae]
  refine V.a' (δ _ _ _) rfl ?_;refine W.part (A:=[]) Θ [4] [] rfl fun J I=>?_;(try simp);(repeat (rw[ζ];simp));(try simp[]);apply I;clear I J;refine W.bB ?_;cases st with
  | false=>
   (repeat (first|apply aV|apply wb|apply aX|apply wd|refine al rfl ?_|refine ah rfl ?_|(refine ν fun J I=>?_;simp;(repeat (rw[ζ];simp[cu,a4,lb,bu,M']));apply I;clear I J)));exact .stop (add true _ rfl rfl)
  | true=>
   by_cases R:π.nw=1
   ·(repeat (first|apply aV|apply wb|apply aX|apply wd|refine al rfl ?_|refine ah rfl ?_|(refine ν fun J I=>?_;simp;(repeat (rw[ζ];simp[cu,a4,lb,bu,R,M']));apply I;clear I J)));exact .stop (add true _ rfl rfl)
   ·have vT:¬(π.nw:Int)=1:=by omega
    (repeat (first|apply aV|apply wb|apply aX|apply wd|refine al rfl ?_|refine ah rfl ?_|(refine ν fun J I=>?_;simp;(repeat (rw[ζ];simp[cu,a4,lb,bu,R,vT]));apply I;clear I J)));exact .stop (add false _ rfl rfl)
theorem W0 (η:iK x s m sp) (Ζ:r6 Q mn x c rest S H s k sp) {φ:Nat} (Γ:zE Q mn x c rest S H s m k sp φ) {gi:Nat} {kx:aK} (ae:gi<φ) {st y:Bool} {τ:Int} :
  jk Q mn x c rest S H s m (.ch k .q .work) (some (gi,kx)) 1 (.code (dx [1,1,1,0] l7)::.code (dx [1,1,1,1] l7)::.inBlock 1::kv) [(0,.z (ptr m 0)),(2,.z (.int .i64 τ)),(3,.z (.bool st)),(8,.z (.bool y))]:=by
 letI:bd:=eF;have δ:=η.seq;have next:∀(gF:Nat) (fA:aK) (st:Bool),gF<φ→jk Q mn x c rest S H s m (.ch k .wk .work) (some (gF,fA)) 1 (.code (dx [1,1,1,1,1] l7)::.inBlock 1::kv) [(0,.z (ptr m 0)),(2,.z (.int .i64 τ)),(3,.z (.bool st))]:=fun gF fA st R=>WZ η Ζ Γ R
 refine V.a' (δ _ _ _) rfl ?_;unfold l7 qH pF l6 pE
 repeat first|apply aV|apply wb|apply aX|apply wd
 refine W.ca ?_;refine W.part (A:=[]) Θ [0,1,2,3] [4] rfl fun J I=>?_;(try simp);(repeat (rw[ζ];simp));apply I;clear I J;refine W.stop ?_;refine V.Wi (δ _ _ _).here (sp:=sp) η.spec (by rw[bZ];exact id) η.aQ (vs:=[ptr m 1,.bool y,.int .i64 2]) rfl (fun bj im=>by rw[zA im];exact η.still bj im) ⟨⟨rfl,rfl,by simp[Frame.enter],rfl⟩,WR,⟨_,rfl⟩,rfl,rfl,rfl⟩ (fun gF π ξ h=>by rw[bZ];exact h) (fun gF π ξ h=>?_);have hv:=ξ.view gi kx oB;refine⟨{π with cR:=π.cR-1},.ch k .wk .work,rfl,rfl,⟨rfl,rfl,rfl⟩,by rw[bZ];exact .take h,fun hn ec=>?_⟩;rw[gD];refine V.a' (δ _ _ _) rfl ?_;refine W.bB ?_;cases st with
 | true=>
  first|apply aV|apply wb|apply aX|apply wd
  refine ν fun J I=>?_;(try simp);(repeat (rw[ζ];simp));(try simp[]);apply I;clear I J;refine W.forget [(0,.z (ptr m 0)),(2,.z (.int .i64 τ)),(3,.z (.bool true))] (by simp) (.stop ?_);exact next hn _ true (by omega)
 | false=>
  first|apply aV|apply wb|apply aX|apply wd
  refine W.ca ?_;refine W.part (A:=[]) Θ [0,1] [2,3,4,5,6,7] rfl fun J I=>?_;(try simp);(repeat (rw[ζ];simp));apply I;clear I J;refine W.stop ?_;refine V.nano (δ _ _ _) (vs:=[]) ⟨⟨rfl,rfl,by simp[Frame.enter],rfl⟩,M0,⟨_,rfl⟩,rfl,rfl,rfl⟩ M7 fun eA=>?_;refine V.a' (δ _ _ _) rfl ?_;refine W.part (A:=[]) Θ [3,4,5,6,7] [] rfl fun J I=>?_;(try simp);(repeat (rw[ζ];simp));(try simp[]);apply I;clear I J;refine W.bB ?_;refine W.forget [(0,.z (ptr m 0)),(2,.z (.int .i64 τ)),(3,.z (.bool (decide (1000000<IntKind.i64.wrap (eA-τ)))))] (by simp) (.stop ?_);exact next hn _ _ (by omega)
theorem W1 (η:iK x s m sp) (Ζ:r6 Q mn x c rest S H s k sp) {φ:Nat} (Γ:zE Q mn x c rest S H s m k sp φ) {gi:Nat} {kx:aK} (ae:gi<φ) {w:Int} {aw st:Bool} {it τ:Int} (ay:¬fH .i32 w 5=0) :
  jk Q mn x c rest S H s m (.ch k .q .work) (some (gi,kx)) 1 (.code l7::.inBlock 1::kv) (cL m w aw st it τ):=by
 letI:bd:=eF;have δ:=η.seq;have next:∀(τ:Int) (y:Bool),jk Q mn x c rest S H s m (.ch k .q .work) (some (gi,kx)) 1 (.code (dx [1,1,1,0] l7)::.code (dx [1,1,1,1] l7)::.inBlock 1::kv) [(0,.z (ptr m 0)),(2,.z (.int .i64 τ)),(3,.z (.bool st)),(8,.z (.bool y))]:=fun τ y=>W0 η Ζ Γ ae
 refine V.a' (δ _ _ _) rfl ?_;unfold l7 qH pF l6 pE;by_cases h:τ=0
 ·subst h;(repeat (first|apply aV|apply wb|apply aX|apply wd|refine al rfl ?_|refine ah rfl ?_|(refine ν fun J I=>?_;simp;(repeat (rw[ζ];simp[cL,ay]));apply I;clear I J)));refine W.ca (.stop ?_);refine V.nano (δ _ _ _) (vs:=[]) ⟨⟨rfl,rfl,by simp[Frame.enter],rfl⟩,M0,⟨_,rfl⟩,rfl,rfl,rfl⟩ M7 fun eA=>?_;refine V.a' (δ _ _ _) rfl ?_;refine W.part (A:=[]) Θ [1] [] rfl fun J I=>?_;(try simp);(repeat (rw[ζ];simp));(try simp[]);apply I;clear I J;refine W.bB ?_
  first|apply aV|apply wb|apply aX|apply wd
  refine W.forget [(0,.z (ptr m 0)),(2,.z (.int .i64 eA)),(3,.z (.bool st)),(8,.z (.bool false))] (by simp) (.stop ?_);exact next eA false
 ·(repeat (first|apply aV|apply wb|apply aX|apply wd|refine al rfl ?_|refine ah rfl ?_|(refine ν fun J I=>?_;simp;(repeat (rw[ζ];simp[cL,ay,h]));apply I;clear I J)));refine W.forget [(0,.z (ptr m 0)),(2,.z (.int .i64 τ)),(3,.z (.bool st)),(8,.z (.bool true))] (by simp[h]) (.stop ?_);exact next τ true
end
theorem Na {a b:aK} {t u:Tok} (μ:rZ a t) (hb:rZ b u) (h:mwd a=mwd b):a.b6=b.b6∧a.wk=b.wk∧a.sv=b.sv∧a.nw=b.nw:=by
 have:=μ.b6;have:=μ.wk;have:=μ.sv;have:=hb.b6;have:=hb.wk;have:=hb.sv;simp only[mwd] at h;omega
section
variable {Q:Value→Prop} {mn:Bool} {x:aR} {c:Frame} {rest:List Frame} {S:aA} {B:aN} {σ:List Row} {H:ψ} {s m k:Nat} {sp:Spec} {v:Option (Nat×aK)} {t:Tok}
theorem zF (η:iK x s m sp) {π:aK} (h:π.toSpec=sp):π.top<7:=by have:=η.top;rw[show π.top=sp.top by rw[←h]];exact this
theorem W2 (η:iK x s m sp) (Ζ:r6 Q mn x c rest S H s k sp) {φ:Nat} {π:aK} (Γ:zE Q mn x c rest S H s m k sp φ) (Β:π.toSpec=sp) {aw st:Bool} {it τ:Int} (υ:rZ π (.ch k (.act aw) .work)) (cg:st=true→aw=true) (kO:0≤it) (Dh:it≤4) :
  jk Q mn x c rest S H s m (.ch k (.act aw) .work) (some (φ,π)) 1 (.code (dx [0] qH)::.code (dx [1] qH)::.inBlock 1::kv) (cL m (mwd π) aw st it τ++[(7,.z (.int .i32 (oD π.b6 π.wk π.sv π.nw aw st)))]):=by
 letI:bd:=eF;have δ:=η.seq;have sB:=M8 υ;have gg:=zF η Β;have ω:=υ.b6;have hw:=υ.wk;have pv:=υ.sv;have Η:=υ.nw;have eR:=Hl π.b6 (by omega) π.wk (by omega) π.sv (by omega) π.nw (by omega);rw[←oC] at eR;have fin:∀(w:Option (Nat×aK)) (env:Χ),a5 env 0=.z (ptr m 0)→jk Q mn x c rest S H s m (.ch k .own .work) w 1 [.code zD] env:=fun w env h=>M6 η Ζ h;have tail:∀(gi:Nat) (kx:aK),gi<φ→¬fH .i32 (mwd π) 5=0→jk Q mn x c rest S H s m (.ch k .q .work) (some (gi,kx)) 1 (.code l7::.inBlock 1::kv) (cL m (mwd π) aw st it τ):=fun gi kx ae ay=>W1 η Ζ Γ ae ay;refine V.a' (δ _ _ _) rfl ?_;unfold qH pF l6 pE;refine W.ca ?_;refine W.part (A:=[]) Θ [0,1,2,3,4] [5] rfl fun J I=>?_;(try simp);(repeat (rw[ζ];simp[cL]));(try simp[cL]);apply I;clear I J;refine W.stop ?_;refine V.C9 (δ _ _ _).here (Nat.succ_pos _) (sp:=sp) η.spec (by rw[bZ];exact id) η.aQ ⟨⟨rfl,rfl,by simp[Frame.enter],rfl⟩,Df,⟨_,rfl⟩,rfl,rfl,rfl⟩ (fun gF fA ξ hv=>.inl ?_) (fun gF fA ξ hv=>?_)
 ·
  have pa:=ξ.view φ π oB
  have R:gF<φ:=by
   rcases Nat.lt_or_ge gF φ with h|h
   ·exact h
   ·exact absurd (by rw[pa.2 (by omega)]) hv
  unfold hG;rw[jF];refine V.a' (δ _ _ _) rfl ?_;refine W.bB ?_
  repeat (first|apply aV|apply wb|apply aX|apply wd)
  refine ah rfl ?_;refine W.ca ?_;refine W.part (A:=[]) Θ [0,1,2] [3,4] rfl fun J I=>?_;(try simp);(repeat (rw[ζ];simp));apply I;clear I J;refine W.stop ?_;refine V.w6 (δ _ _ _).here (sp:=sp) η.spec (by rw[bZ];exact id) ⟨rfl,rfl,by simp[Frame.enter],rfl⟩ rfl rfl rfl w7 rfl Dg mwd (fun π w Β bx=>bx.du (by rw[Β];exact η.aQ)) (fun hn fr dI=>.inl ?_);have wJ:=dI.view gF fA oB;have eU:=dI.iJ.mm;rw[bZ] at eU;unfold hG;rw[jF];refine V.a' (δ _ _ _) rfl ?_;refine W.part (A:=[]) Θ [4] [] rfl fun J I=>?_;(try simp);(repeat (rw[ζ];simp));(try simp[]);apply I;clear I J;refine W.bB ?_;refine W.inBlock ?_;refine W.forget (cL m (mwd fr) aw st it τ) (by simp[cL]) (.stop ?_);exact Γ hn fr aw st it τ (by omega) dI.spec eU cg kO Dh
 ·have pa:=ξ.view φ π oB
  have iw:=ξ.iJ.mm;rw[bZ] at iw;obtain⟨Ξ,ad,aT,ck⟩:=Na iw υ hv;by_cases zG:π.b6=0∧π.sv=0
  ·refine⟨{fA with b6:=1,wk:=if aw then 0 else fA.wk},.ch k .own .work,?_,rfl,⟨rfl,rfl,rfl⟩,by rw[bZ];exact .acq (by omega) (by omega),fun hn ec=>?_⟩
   ·simp[oD,oC,ad,aT,ck,zG.1,zG.2]
   ·rw[gD];rw[zG.1,zG.2] at eR;refine V.a' (δ _ _ _) rfl ?_;refine W.bB ?_
    repeat (first|apply aV|apply wb|apply aX|apply wd)
    refine al rfl ?_;(repeat (first|apply aV|apply wb|apply aX|apply wd|refine al rfl ?_|refine ah rfl ?_|(refine ν fun J I=>?_;simp;(repeat (rw[ζ];simp[eR]));apply I;clear I J)));refine W.exit rfl (.stop ?_);exact fin _ _ rfl
  ·have Υ:π.b6=1∨π.sv=1:=by omega
   refine⟨{fA with nw:=fA.nw+1,wk:=if aw then 0 else fA.wk,sv:=if(st&&decide (π.b6=1)) then 1 else fA.sv},.ch k .q .work,?_,rfl,⟨rfl,rfl,rfl⟩,by rw[bZ];exact .queue (st&&decide (π.b6=1)) (by omega) (fun h=>by simp at h;exact⟨cg h.1,by omega⟩),fun hn ec=>?_⟩
   ·simp only[oD,if_neg zG,oC,Ξ,ad,aT,ck];simp
   ·rw[gD];refine V.a' (δ _ _ _) rfl ?_;refine W.bB ?_
    repeat (first|apply aV|apply wb|apply aX|apply wd)
    refine al rfl ?_;refine W.forget (cL m (mwd π) aw st it τ) (by simp[cL]) (.stop ?_);exact tail hn _ (by omega) (by omega)
theorem W3 (η:iK x s m sp) {φ:Nat} {aw st:Bool} {it τ:Int} {gi:Nat} {kx:aK} (kO:0≤it) (Dh:it<4)
  (Γ:∀(cb:Nat) (ho:aK),cb≤gi→ho.toSpec=sp→rZ ho (.ch k (.act aw) .work)→jk Q mn x c rest S H s m (.ch k (.act aw) .work) (some (cb,ho)) 1 kv (cL m (mwd ho) aw st (it+1) τ)) :
  jk Q mn x c rest S H s m (.ch k (.act aw) .work) (some (gi,kx)) 1 (.code (dx [0,0,1,0,1,0] l6)::.code (dx [0,0,1,0,1,1] l6)::.code pF::.inBlock 1::kv) [(0,.z (ptr m 0)),(2,.z (.int .i64 τ)),(3,.z (.bool st)),(4,.z (.bool aw)),(5,.z (.int .i64 it))]:=by
 letI:bd:=eF;have δ:=η.seq;have hw:IntKind.i64.wrap (it+1)=it+1:=by simp only[IntKind.wrap_i64];omega
 refine V.a' (δ _ _ _) rfl ?_;unfold l6 pE
 repeat first|apply aV|apply wb|apply aX|apply wd
 refine W.ca (.stop ?_);refine V.Db (δ _ _ _) (vs:=[]) ⟨⟨rfl,rfl,by simp[Frame.enter],rfl⟩,WQ,⟨_,rfl⟩,rfl,rfl,rfl⟩ ?_;refine V.a' (δ _ _ _) rfl ?_;refine W.bB ?_
 repeat (first|apply aV|apply wb|apply aX|apply wd)
 refine ν fun J I=>?_;(try simp);(repeat (rw[ζ];simp[hw]));(try simp[hw]);apply I;clear I J
 repeat (first|apply aV|apply wb|apply aX|apply wd)
 refine W.ca ?_;refine W.part (A:=[]) Θ [0,1,2] [3,4] rfl fun J I=>?_;(try simp);(repeat (rw[ζ];simp));apply I;clear I J;refine W.stop ?_;refine V.w6 (δ _ _ _).here (sp:=sp) η.spec (by rw[bZ];exact id) ⟨rfl,rfl,by simp[Frame.enter],rfl⟩ rfl rfl rfl w7 rfl Dg mwd (fun π w Β bx=>bx.du (by rw[Β];exact η.aQ)) (fun hn fr dI=>.inl ?_);have wJ:=dI.view gi kx oB;have eU:=dI.iJ.mm;rw[bZ] at eU;unfold hG;rw[jF];refine V.a' (δ _ _ _) rfl ?_;refine W.part (A:=[]) Θ [4] [] rfl fun J I=>?_;(try simp);(repeat (rw[ζ];simp));(try simp[]);apply I;clear I J;refine W.bB ?_;refine W.exit rfl ?_;refine W.forget (cL m (mwd fr) aw st (it+1) τ) (by simp[cL]) (.stop ?_);exact Γ hn fr (by omega) dI.spec eU
theorem W4 (η:iK x s m sp) (Ζ:r6 Q mn x c rest S H s k sp):∀(N φ:Nat) (π:aK) (aw st:Bool) (it τ:Int),φ*8+(4-it).toNat<N→π.toSpec=sp→rZ π (.ch k (.act aw) .work)→(st=true→aw=true)→0≤it→it≤4→
  jk Q mn x c rest S H s m (.ch k (.act aw) .work) (some (φ,π)) 1 (.code l6::kv) (cL m (mwd π) aw st it τ):=by
 letI:bd:=eF;have δ:=η.seq;intro N
 induction N with
 | zero=>intro φ π aw st it τ h;omega
 | succ N zH=>
  intro φ π aw st it τ cm Β υ cg kO Dh;have sB:=M8 υ;have gg:=zF η Β;have ω:=υ.b6;have hw:=υ.wk;have pv:=υ.sv;have Η:=υ.nw;have eR:=Hl π.b6 (by omega) π.wk (by omega) π.sv (by omega) π.nw (by omega);have Δ:=Dd π.b6 (by omega) π.wk (by omega) π.sv (by omega) π.nw (by omega);have ix:=WH π.b6 (by omega) π.wk (by omega) π.sv (by omega) π.nw (by omega);have lb:=Ho π.b6 (by omega) π.wk (by omega) π.sv (by omega) π.nw (by omega);rw[←oC] at eR Δ lb ix;have back:∀(cb:Nat) (ho:aK) (mO w9:Bool) (tk eA:Int),cb*8+(4-tk).toNat<N→ho.toSpec=sp→rZ ho (.ch k (.act mO) .work)→(w9=true→mO=true)→0≤tk→tk≤4→
    jk Q mn x c rest S H s m (.ch k (.act mO) .work) (some (cb,ho)) 1 kv (cL m (mwd ho) mO w9 tk eA):=fun cb ho mO w9 tk eA R γ ο Ι ay a6=>by
   have:=zH cb ho mO w9 tk eA R γ ο Ι ay a6;refine V.a' (δ _ _ _) rfl ?_;exact W.inLoop (.stop this)
  have et:zE Q mn x c rest S H s m k sp φ:=fun cb ho mO w9 tk eA R γ ο Ι ay a6=>back cb ho mO w9 tk eA (by omega) γ ο Ι ay a6
  have new:jk Q mn x c rest S H s m (.ch k (.act aw) .work) (some (φ,π)) 1 (.code pF::.inBlock 1::kv) (cL m (mwd π) aw st it τ):=by
   rw[oC];exact WX η (by omega) (by omega) (by omega) (by omega) sB cg (by rw[←oC];exact W2 η Ζ et Β υ cg kO Dh)
  have zI:∀(gi:Nat) (kx:aK) (mO:Bool),it<4→(gi≤φ)→(st=true→mO=true)→jk Q mn x c rest S H s m (.ch k (.act mO) .work) (some (gi,kx)) 1 (.code (dx [0,0,1,0,1,0] l6)::.code (dx [0,0,1,0,1,1] l6)::.code pF::.inBlock 1::kv) [(0,.z (ptr m 0)),(2,.z (.int .i64 τ)),(3,.z (.bool st)),(4,.z (.bool mO)),(5,.z (.int .i64 it))]:=fun gi kx mO R γ ο=>
   W3 η (φ:=φ) kO R fun cb ho Ξ ad aT=>back cb ho mO st (it+1) τ (by omega) ad aT ο (by omega) (by omega)
  refine V.a' (δ _ _ _) rfl ?_;unfold l6 pE
  repeat first|apply aV|apply wb|apply aX|apply wd
  by_cases bQ:π.b6=1∧π.sv=0
  ·rw[bQ.1,bQ.2] at eR;refine W.ca ?_;refine W.part (A:=[]) Θ [0,1,2,3,4] [5,6] rfl fun J I=>?_;(try simp);(repeat (rw[ζ];simp[cL,eR]));(try simp[cL,eR]);apply I;clear I J;refine W.stop ?_;refine V.canSpin (δ _ _ _) ⟨⟨rfl,rfl,by simp[Frame.enter],rfl⟩,WO,⟨_,rfl⟩,rfl,rfl,rfl⟩ fun y Ο=>?_;refine V.a' (δ _ _ _) rfl ?_;refine W.part (A:=[]) Θ [6] [] rfl fun J I=>?_;(try simp);(repeat (rw[ζ];simp[cL]));(try simp[cL]);apply I;clear I J;refine W.bB ?_;cases y with
   | false=>
    refine ah rfl ?_
    first|apply aV|apply wb|apply aX|apply wd
    refine W.forget (cL m (mwd π) aw st it τ) (by simp[cL]) (.stop ?_);exact new
   | true=>
    have Ι:=Ο rfl;refine al rfl ?_
    repeat first|apply aV|apply wb|apply aX|apply wd
    cases aw with
    | true=>
     (repeat (first|apply aV|apply wb|apply aX|apply wd|refine al rfl ?_|refine ah rfl ?_|(refine ν fun J I=>?_;simp;(repeat (rw[ζ];simp[cL]));apply I;clear I J)));refine W.forget [(0,.z (ptr m 0)),(2,.z (.int .i64 τ)),(3,.z (.bool st)),(4,.z (.bool true)),(5,.z (.int .i64 it))] (by simp) (.stop ?_);exact zI φ π true Ι (Nat.le_refl _) (fun _=>rfl)
    | false=>
     by_cases Di:π.wk=0
     ·by_cases qh:π.nw=0
      ·rw[Di] at Δ;rw[qh] at lb;(repeat (first|apply aV|apply wb|apply aX|apply wd|refine al rfl ?_|refine ah rfl ?_|(refine ν fun J I=>?_;simp;(repeat (rw[ζ];simp[cL,Δ,lb]));apply I;clear I J)));refine W.forget [(0,.z (ptr m 0)),(2,.z (.int .i64 τ)),(3,.z (.bool st)),(4,.z (.bool false)),(5,.z (.int .i64 it))] (by simp) (.stop ?_);exact zI φ π false Ι (Nat.le_refl _) cg
      ·rw[Di] at Δ;have Nb:((π.nw:Int) != 0)=true:=by simp;omega
       refine W.ca ?_;refine W.part (A:=[]) Θ [0,1,2,3,4,5,6,7,8,9,10,11,12,13,14,15,16,17,18] [19,20] rfl fun J I=>?_;(try simp);(repeat (rw[ζ];simp[cL,Δ,lb,ix,qh,Nb]));(try simp[cL,Δ,lb,ix,qh,Nb]);apply I;clear I J;refine W.stop ?_;refine V.C9 (δ _ _ _).here (Nat.succ_pos _) (sp:=sp) η.spec (by rw[bZ];exact id) η.aQ ⟨⟨rfl,rfl,by simp[Frame.enter],rfl⟩,Df,⟨_,rfl⟩,rfl,rfl,rfl⟩ (fun gF fA ξ hv=>.inl ?_) (fun gF fA ξ hv=>?_)
       ·have pa:=ξ.view φ π oB;unfold hG;rw[jF];refine V.a' (δ _ _ _) rfl ?_;refine W.part (A:=[]) Θ [20] [] rfl fun J I=>?_;(try simp);(repeat (rw[ζ];simp[cL]));(try simp[cL]);apply I;clear I J;refine W.bB ?_;refine ah rfl ?_
        repeat (first|apply aV|apply wb|apply aX|apply wd)
        refine W.forget [(0,.z (ptr m 0)),(2,.z (.int .i64 τ)),(3,.z (.bool st)),(4,.z (.bool false)),(5,.z (.int .i64 it))] (by simp[cL]) (.stop ?_);exact zI gF fA false Ι (by omega) cg
       ·have pa:=ξ.view φ π oB
        have iw:=ξ.iJ.mm;rw[bZ] at iw;obtain⟨Ξ,ad,aT,ck⟩:=Na iw υ hv;refine⟨{fA with wk:=1},.ch k (.act true) .work,?_,rfl,⟨rfl,rfl,rfl⟩,by rw[bZ];exact .P4 (by omega) (by omega) (by omega) (by omega),fun hn ec=>?_⟩
        ·simp[oC,Ξ,aT,ck]
        ·rw[gD];refine V.a' (δ _ _ _) rfl ?_;refine W.part (A:=[]) Θ [20] [] rfl fun J I=>?_;(try simp);(repeat (rw[ζ];simp[cL]));(try simp[cL]);apply I;clear I J;refine W.bB ?_;refine al rfl ?_;refine ν fun J I=>?_;(try simp);(repeat (rw[ζ];simp[cL]));(try simp[cL]);apply I;clear I J
         repeat (first|apply aV|apply wb|apply aX|apply wd)
         refine W.forget [(0,.z (ptr m 0)),(2,.z (.int .i64 τ)),(3,.z (.bool st)),(4,.z (.bool true)),(5,.z (.int .i64 it))] (by simp[cL]) (.stop ?_);exact zI hn _ true Ι (by omega) (fun _=>rfl)
     ·have iL:π.wk=1:=by omega
      rw[iL] at Δ;(repeat (first|apply aV|apply wb|apply aX|apply wd|refine al rfl ?_|refine ah rfl ?_|(refine ν fun J I=>?_;simp;(repeat (rw[ζ];simp[cL,Δ]));apply I;clear I J)));refine W.forget [(0,.z (ptr m 0)),(2,.z (.int .i64 τ)),(3,.z (.bool st)),(4,.z (.bool false)),(5,.z (.int .i64 it))] (by simp) (.stop ?_);exact zI φ π false Ι (Nat.le_refl _) cg
  ·have ay:¬fH .i32 (mwd π) 5=1:=by rw[eR];omega
   refine ν fun J I=>?_;(try simp);(repeat (rw[ζ];simp[cL,ay]));(try simp[cL,ay]);apply I;clear I J;refine ah rfl ?_
   first|apply aV|apply wb|apply aX|apply wd
   refine W.forget (cL m (mwd π) aw st it τ) (by simp[cL]) (.stop ?_);exact new
theorem W5 (η:iK x s m sp):M5 Q mn x s m k sp:=by
 intro c rest S B σ H v Α Ζ;letI:bd:=eF;have δ:=η.seq;have head:=fun φ π aw st it τ γ ο Ι ay a6=>W4 η Ζ (φ*8+(4-it).toNat+1) φ π aw st it τ (Nat.lt_succ_self _) γ ο Ι ay a6;refine V.pz (z:=one _) (vs:=[ptr m 0]) Tryz.func213 rfl Α (by simp[Tryz.ntmps213]) ?_ _ rfl;refine V.a' (δ _ _ _) rfl ?_;(repeat (first|apply aV|apply wb|apply aX|apply wd|refine al rfl ?_|refine ah rfl ?_|(refine ν fun J I=>?_;simp;(repeat (rw[ζ];simp));apply I;clear I J)));refine W.ca ?_;refine W.part (A:=[]) Θ [0,1,2] [3,4] rfl fun J I=>?_;(try simp);(repeat (rw[ζ];simp));apply I;clear I J;refine W.stop ?_;refine V.w6 (δ _ _ _).here (sp:=sp) η.spec (by rw[bZ];exact id) ⟨rfl,rfl,by simp[Frame.enter],rfl⟩ rfl rfl rfl w7 rfl Dg mwd (fun π w Β bx=>bx.du (by rw[Β];exact η.aQ)) (fun hn fr dI=>.inl ?_);have eU:=dI.iJ.mm;rw[bZ] at eU;unfold hG;rw[jF];refine V.a' (δ _ _ _) rfl ?_;refine W.part (A:=[]) Θ [4] [] rfl fun J I=>?_;(try simp);(repeat (rw[ζ];simp));(try simp[]);apply I;clear I J;refine W.bB ?_
 repeat (first|apply aV|apply wb|apply aX|apply wd)
 refine W.loop ?_;refine W.forget (cL m (mwd fr) false false 0 0) (by simp[cL]) (.stop ?_);exact head hn fr false false 0 0 dI.spec eU (fun h=>by cases h) (by omega) (by omega)
theorem W6 (η:iK x s m sp) (Α:Holds S B σ H) (Ζ:r6 Q mn x c rest S H s k sp):cf Tryz.prog Q mn (br x s (.ch k .idle .work) v 0) (Frame.enter Tryz.prog 144 #[ptr m 0] .normal) (c::rest) H:=by
 letI:bd:=eF;have δ:=η.seq;refine V.pz (z:=one _) (vs:=[ptr m 0]) Tryz.func144 rfl Α (by simp[Tryz.ntmps144]) ?_ _ rfl;refine V.a' (δ _ _ _) rfl ?_
 repeat first|apply aV|apply wb|apply aX|apply wd
 refine W.ca ?_;refine W.part (A:=[]) Θ [0,1,2] [3] rfl fun J I=>?_;(try simp);(repeat (rw[ζ];simp));apply I;clear I J;refine W.stop ?_;refine V.call (δ _ _ _) ⟨rfl,rfl,by simp[Frame.enter],rfl⟩ rfl rfl rfl ⟨_,Tryz.func175,rfl,rfl⟩ fun bE bK H1 t1 oq μ χ hv=>?_;obtain rfl:=l4 (l:=[ptr m 0]) hv;obtain rfl:bK=[]:=dq.1 χ.holds.len;rintro y rfl;refine WV η χ.holds (W5 η) fun cO bJ L E ku iA da h5 va=>?_;rw[hO rfl];refine cf.leave0 (δ _ _ _) rfl rfl rfl rfl Tryz.func144 rfl ?_;exact Ζ cO bJ L E (μ.ext.trans ku) iA da h5 va
end
end Go.TL
