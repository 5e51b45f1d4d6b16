import Derived.Conc.Own2
import Derived.Test.YtlabjopijpkiaaaGreatQBC
import Derived.Test.YtlabjopijpkiaaaGreatQBF
import Derived.Test.YtlabjopijpkiaaaGreatQBK
set_option maxHeartbeats 16000000
set_option maxRecDepth 20000
set_option linter.unusedSectionVars false
set_option linter.unusedSimpArgs false
set_option linter.unusedVariables false
namespace Go.TL
open Go.Conc
open Go.ConcN (upd)
def qL (S:aA) (H:ψ):ψ:={H with aF:=fun b o=>match S b o with|some v=>some (v,false)|none=>H.aF b o}
def ma (S:aA):ψ:=⟨fun b o=>(S b o).map (·,false),fun _=>none,fun _=>none⟩
def aA.plus (S T:aA):aA:=fun b o=>match S b o with|some v=>some v|none=>T b o
structure mR (β:Nat) (bE:aA) (E:ψ):Prop where
 aF:∀b o x,E.aF b o=some x→bE b o≠none∨β<b
 row:∀b x,E.row b=some x→β<b
 obj:∀b x,E.obj b=some x→β<b
def xh (r:Row):Prop:=∃t k l,r=.cells t k l
section
variable {S au g7 e3 bE:aA} {B B':aN} {σ σ':List Row} {H H' dE E G:ψ} {β:Nat}
theorem zQ {b o:Nat} {v:Value} (h:S b o=some v):(qL S H).aF b o=some (v,false):=by simp only[qL,h]
theorem HK {b o:Nat} (h:S b o=none):(qL S H).aF b o=H.aF b o:=by simp only[qL,h]
theorem HL {b o:Nat} {v:Value} (h:S b o=some v):(ma S).aF b o=some (v,false):=by simp only[ma,h];rfl
theorem Dv {b o:Nat} {x:Value×Bool} (h:(ma S).aF b o=some x):∃v,S b o=some v∧x=(v,false):=by
 cases ξ:S b o with
 | none=>simp[ma,ξ] at h
 | some v=>exact⟨v,rfl,by simp[ma,ξ] at h;exact h.symm⟩
theorem zR {b o:Nat} {v:Value} (h:S b o=some v):S.plus g7 b o=some v:=by simp only[aA.plus,h]
theorem Dw {b o:Nat} (h:S b o=none):S.plus g7 b o=g7 b o:=by simp only[aA.plus,h]
theorem join_some {b o:Nat} {x:Value×Bool} (h:H.aF b o=some x):(join H E).aF b o=some x:=by simp only[join,h]
theorem join_none {b o:Nat} (h:H.aF b o=none):(join H E).aF b o=E.aF b o:=by simp only[join,h]
theorem XO {b:Nat} {x:TypeId×Nat} (h:(join H E).row b=some x):H.row b=some x∨E.row b=some x:=by
 cases κ:H.row b with
 | none=>simp only[join,κ] at h;exact .inr h
 | some y=>simp only[join,κ] at h;exact .inl h
theorem XP {b:Nat} {x:Obj} (h:(join H E).obj b=some x):H.obj b=some x∨E.obj b=some x:=by
 cases κ:H.obj b with
 | none=>simp only[join,κ] at h;exact .inr h
 | some y=>simp only[join,κ] at h;exact .inl h
theorem XQ (Α:Holds S [] [] H):Split H (qL S H) (ma S):=by
 refine⟨⟨fun b o v p h=>?_,fun b x h=>h,fun b x h=>h⟩,⟨fun b o v p h=>?_,fun b x h=>(by cases h),fun b x h=>(by cases h)⟩,⟨fun b o ⟨v,h⟩ ⟨x,k⟩=>?_,fun b o ⟨v,h⟩ _=>?_,fun b _ ⟨x,h⟩=>(by cases h)⟩⟩
 ·cases ξ:S b o with
  | some u=>
   rw[zQ ξ] at h;cases h;obtain⟨fg,χ⟩:=Α.c6 b o _ ξ;exact⟨fg,χ,fun e=>by cases e⟩
  | none=>rw[HK ξ] at h;exact⟨p,h,id⟩
 ·obtain⟨u,ξ,e⟩:=Dv h;cases e;obtain⟨fg,χ⟩:=Α.c6 b o _ ξ;exact⟨fg,χ,fun e=>by cases e⟩
 ·obtain⟨u,ξ,e⟩:=Dv k;rw[zQ ξ] at h;cases h
 ·obtain⟨u,ξ,e⟩:=Dv h;cases e
theorem XR (Α:Holds S [] [] H):Holds S [] [] (qL S H):=
 ⟨fun b o v h=>⟨false,zQ h⟩,rfl,fun id r bo h=>by simp at h,fun i j dX b4 b gk gl _ h=>by simp at h,fun id r b N h=>by simp at h⟩
theorem XS:Holds S [] [] (ma S):=
 ⟨fun b o v h=>⟨false,HL h⟩,rfl,fun id r bo h=>by simp at h,fun i j dX b4 b gk gl _ h=>by simp at h,fun id r b N h=>by simp at h⟩
theorem XT (Α:Holds S [] [] H):Ext S [] H S [] (qL S H):=by
 refine⟨fun _ _ _ h=>h,fun b _ _=>⟨fun o=>?_,rfl,rfl⟩,fun b h=>.inl h,fun b o v h=>.inl h,fun b h=>?_⟩
 ·cases ξ:S b o with
  | none=>exact .inl (HK ξ)
  | some v=>
   obtain⟨p,χ⟩:=Α.c6 b o v ξ;exact .inr ⟨v,p,rfl,χ,zQ ξ⟩
 ·have key:∀b o,(qL S H).aF b o=none→H.aF b o=none:=fun b o h=>by
   cases ξ:S b o with
   | none=>rw[HK ξ] at h;exact h
   | some v=>rw[zQ ξ] at h;cases h
  exact⟨fun o=>key b o (h.1 o),h.2.1,h.2.2.1,fun Φ hb=>⟨fun o=>key Φ o ((h.2.2.2 Φ hb).1 o),(h.2.2.2 Φ hb).2⟩⟩
theorem Holds.ri (Α:Holds S B σ H) (μ:∀b,¬H.fresh b→jR H H' b) (Τ:∀b,H'.fresh b→H.fresh b):Holds S B σ H'∧Ext S B H S B H':=by
 have Bn:∀b o x,H.aF b o=some x→¬H.fresh b:=fun b o x h Ρ=>by rw[Ρ.1 o] at h;cases h
 refine⟨⟨fun b o v h=>?_,Α.len,fun id r bo κ eM=>?_,Α.inj,Α.sep⟩,⟨fun _ _ _ h=>h,fun b _ Ρ=>mx.of (μ b Ρ),fun b h=>.inl h,fun b o v h=>.inl h,Τ⟩⟩
 ·obtain⟨p,χ⟩:=Α.c6 b o v h;exact⟨p,by rw[(μ b (Bn b o _ χ)).1];exact χ⟩
 ·by_cases e4:r.live
  ·refine(Α.row id r bo κ eM).later (b0.refl S B σ) (fun b N e=>μ b (Α.m' κ e4 (by rw[eM,e]))) fun m left cur e=>?_;subst e;obtain⟨_,_,aQ,j',xs,clock,seen,_,R,⟨es,γ⟩,_⟩:=Α.row id _ bo κ eM;exact⟨rfl,rfl,fun b N hb=>μ b (Α.m' γ trivial hb)⟩
  ·cases r<;>first|exact absurd trivial e4|trivial
theorem Ext.ri (h:Ext eX [] H au [] H') {b:Nat} (Ρ:¬H.fresh b):jR H H' b:=(h.ft b (fun⟨N,x⟩=>by simp at x) Ρ).ri fun _=>rfl
theorem NC {w:World} (cY:Fits H w) (c9:Fits E w) {b o:Nat} {u v:Value} {p q:Bool} (h:H.aF b o=some (u,p)) (k:E.aF b o=some (v,q)):u=v:=by
 have R:=cY.aF b o u p h;rw[c9.aF b o v q k] at R;exact(Option.some.inj R).symm
theorem XU {w:World} (cY:Fits H w) (c9:Fits E w) (h5:Apart H E) {b N:Nat} {t:TypeId} (κ:E.row b=some (t,N)) (Β:∀o,o<N→∃v,E.aF b o=some (v,true)):(∀o,H.aF b o=none)∧jR E (join H E) b:=by
 obtain⟨c,R,γ⟩:=c9.row b t N κ;have Η:∀o,H.aF b o=none:=fun o=>by
  cases δ:H.aF b o with
  | none=>rfl
  | some x=>
   have η:=cY.aF b o x.1 x.2 δ;by_cases aE:o<N
   ·exact absurd ⟨x,δ⟩ (h5.pP b o (Β o aE))
   ·simp only[World.cell?,R] at η;simp[γ,aE] at η
 refine⟨Η,fun o=>join_none (Η o),?_,?_⟩
 ·cases δ:H.row b with
  | none=>simp only[join,δ]
  | some x=>
   obtain⟨c',ο,Ι⟩:=cY.row b x.1 x.2 δ;rw[R] at ο;cases ο;simp only[join,δ,κ];obtain⟨ui,m9⟩:=x
   simp_all
 ·cases δ:H.obj b with
  | none=>simp only[join,δ]
  | some x=>
   obtain⟨ο,Ι⟩:=cY.obj b x δ;rw[R] at ο;cases ο;simp[Obj.qW] at Ι
theorem ND (Α:Holds S [] [] H) (c9:Holds g7 B σ E) (h5:Apart H E) (hw:∃w,Fits H w∧Fits E w) (k3:∀r∈σ,xh r) :
  Holds (S.plus g7) B σ (join H E)∧b0 S (S.plus g7) [] B [] σ∧b0 g7 (S.plus g7) B B σ σ:=by
 obtain⟨w,cY,gx⟩:=hw;have st:∀b o v,g7 b o=some v→S.plus g7 b o=some v:=fun b o v h=>by
  cases ξ:S b o with
  | none=>rw[Dw ξ];exact h
  | some u=>
   obtain⟨p,χ⟩:=Α.c6 b o u ξ;obtain⟨q,Υ⟩:=c9.c6 b o v h;rw[zR ξ,NC cY gx χ Υ]
 have l1:b0 S (S.plus g7) [] B [] σ:=⟨fun b o v h=>zR h,fun id r h=>by simp at h⟩
 have l2:b0 g7 (S.plus g7) B B σ σ:=⟨st,fun id r h=>⟨r,h,r.sG _⟩⟩
 have mine:∀(id:Nat) (r:Row) (b N:Nat),σ[id]?=some r→B[id]?=some (some (b,N))→(∀o,H.aF b o=none)∧jR E (join H E) b:=fun id r b N κ hb=>by
  obtain⟨t,k,l,rfl⟩:=k3 r (cl κ);obtain⟨Ε,_,Δ,_⟩:=c9.row id _ _ κ hb;exact XU cY gx h5 Ε Δ
 refine⟨⟨fun b o v h=>?_,c9.len,fun id r bo κ eM=>?_,c9.inj,fun id r b N κ e4 eM o=>?_⟩,l1,l2⟩
 ·cases ξ:S b o with
  | some u=>
   rw[zR ξ] at h;cases h;obtain⟨p,χ⟩:=Α.c6 b o _ ξ;exact⟨p,join_some χ⟩
  | none=>
   rw[Dw ξ] at h;obtain⟨p,χ⟩:=c9.c6 b o v h;cases δ:H.aF b o with
   | none=>exact⟨p,by rw[join_none δ];exact χ⟩
   | some x=>
    obtain⟨u,q⟩:=x;have:=NC cY gx δ χ;subst this;exact⟨q,join_some δ⟩
 ·refine(c9.row id r bo κ eM).later l2 (fun b N e=>(mine id r b N κ (by rw[eM,e])).2) fun m left cur e=>?_;subst e;obtain⟨t,k,l,e⟩:=k3 _ (cl κ);cases e
 ·have R:=(mine id r b N κ eM).1 o;cases ξ:S b o with
  | some u=>
   obtain⟨p,χ⟩:=Α.c6 b o u ξ;rw[R] at χ;cases χ
  | none=>rw[Dw ξ];exact c9.sep id r b N κ e4 eM o
theorem HM {o:Nat} {x:Value×Bool} (μ:G.aF β o=some x) {b:Nat} (Ρ:G.fresh b):β<b:=by
 by_cases e:β<b
 ·exact e
 ·rcases Nat.lt_or_ge b β with h|h
  ·have:=(Ρ.2.2.2 β h).1 o;rw[μ] at this;cases this
  ·obtain rfl:β=b:=by omega
   rw[Ρ.1 o] at μ;cases μ
theorem HN {b:Nat} (Ρ:G.fresh β) (h:β<b):G.fresh b:=
 ⟨(Ρ.2.2.2 b h).1,(Ρ.2.2.2 b h).2.1,(Ρ.2.2.2 b h).2.2,fun Φ dv=>Ρ.2.2.2 Φ (Nat.lt_trans h dv)⟩
theorem XV (fS:∀b o v,S b o=some v→bE b o≠none∨β<b):mR β bE (ma S):=
 ⟨fun b o x h=>let ⟨v,R,_⟩:=Dv h;fS b o v R,fun b x h=>(by cases h),fun b x h=>(by cases h)⟩
theorem mR.join (h:mR β bE G) (k:mR β bE E):mR β bE (join G E):=by
 refine⟨fun b o x δ=>?_,fun b x δ=>(XO δ).elim (h.row b x) (k.row b x),fun b x δ=>(XP δ).elim (h.obj b x) (k.obj b x)⟩;cases Τ:G.aF b o with
 | none=>rw[join_none Τ] at δ;exact k.aF b o x δ
 | some y=>exact h.aF b o y Τ
theorem mR.ext (h:mR β bE G) {G':ψ} (he:Ext S B G au B' G') (e1:∀b,B.has b→β<b) {o:Nat} {x:Value×Bool} (μ:G.aF β o=some x):mR β bE G':=by
 have key:∀b,¬β<b→mx S G G' b:=fun b hb=>he.ft b (fun k=>hb (e1 b k)) fun k=>hb (HM μ k);refine⟨fun b o x δ=>?_,fun b x δ=>?_,fun b x δ=>?_⟩
 ·by_cases hb:β<b
  ·exact .inr hb
  ·rcases(key b hb).1 o with e|⟨v,p,_,e,_⟩
   ·rw[e] at δ;exact h.aF b o x δ
   ·exact h.aF b o _ e
 ·by_cases hb:β<b
  ·exact hb
  ·rw[(key b hb).2.1] at δ;exact h.row b x δ
 ·by_cases hb:β<b
  ·exact hb
  ·rw[(key b hb).2.2] at δ;exact h.obj b x δ
theorem NF {G':ψ} (he:Ext S B G au B' G') (e1:¬B.has β) (μ:∃o x,G.aF β o=some x):∃o x,G'.aF β o=some x:=by
 obtain⟨o,x,δ⟩:=μ;rcases(he.ft β e1 (fun Ρ=>by rw[Ρ.1 o] at δ;cases δ)).1 o with e|⟨v,p,_,_,e⟩
 ·exact⟨o,x,by rw[e];exact δ⟩
 ·exact⟨o,_,e⟩
theorem mR.blocks (h:mR β bE E) (c9:Holds g7 B σ E) (k3:∀r∈σ,xh r) {b:Nat} (hb:B.has b):β<b:=by
 obtain⟨N,cm⟩:=hb;obtain⟨id,bU⟩:=List.getElem?_of_mem cm;have aE:id<σ.length:=by rw[←c9.len];exact(b3.1 bU).1
 have κ:=bc aE;obtain⟨t,k,l,e⟩:=k3 _ (cl κ);rw[e] at κ;exact h.row b _ (c9.row id _ _ κ bU).1
theorem XW (he:Ext e3 [] dE S [] H) (fS:∀b o v,bE b o=some v→S b o=some v) (Ρ:dE.fresh β) (hi:mR β bE E) (Α:Holds S [] [] H) (c9:Holds g7 B σ E) (k3:∀r∈σ,xh r) :
  Ext e3 [] dE (S.plus g7) B (join H E):=by
 have wz:∀b,¬aN.has ([]:aN) b:=fun b ⟨N,h⟩=>by simp at h
 have old:∀b,¬dE.fresh b→¬β<b:=fun b h k=>h (HN Ρ k)
 have same:∀b,¬β<b→∀o,(join H E).aF b o=H.aF b o:=fun b hb o=>by
  cases δ:H.aF b o with
  | some x=>rw[join_some δ]
  | none=>
   rw[join_none δ];cases Ο:E.aF b o with
   | none=>rfl
   | some y=>
    rcases hi.aF b o y Ο with k|k
    ·cases ξ:bE b o with
     | none=>exact absurd ξ k
     | some v=>
      obtain⟨p,χ⟩:=Α.c6 b o v (fS b o v ξ);rw[δ] at χ;cases χ
    ·exact absurd k hb
 refine⟨fun b o v h=>zR (he.c6 b o v h),fun b _ n5=>?_,fun b hb=>.inr (HN Ρ (hi.blocks c9 k3 hb)),fun b o v h=>?_,fun b h=>he.grow b ?_⟩
 ·have hb:=old b n5;obtain⟨k1,cx,qu⟩:=he.ft b (wz b) n5;refine⟨fun o=>by rw[same b hb o];exact k1 o,?_,?_⟩
  ·cases δ:E.row b with
   | none=>rw[←cx];simp only[join,δ];cases H.row b<;>rfl
   | some x=>exact absurd (hi.row b x δ) hb
  ·cases δ:E.obj b with
   | none=>rw[←qu];simp only[join,δ];cases H.obj b<;>rfl
   | some x=>exact absurd (hi.obj b x δ) hb
 ·cases ξ:S b o with
  | some u=>rw[zR ξ] at h;cases h;exact he.qa b o _ ξ
  | none=>
   rw[Dw ξ] at h;obtain⟨p,χ⟩:=c9.c6 b o v h;rcases hi.aF b o _ χ with k|k
   ·cases qJ:bE b o with
    | none=>exact absurd qJ k
    | some u=>rw[fS b o u qJ] at ξ;cases ξ
   ·exact .inr (.inr (HN Ρ k))
 ·have c:∀b o,(join H E).aF b o=none→H.aF b o=none:=fun b o h=>by
   cases δ:H.aF b o with
   | none=>rfl
   | some x=>rw[join_some δ] at h;cases h
  have r:∀b,(join H E).row b=none→H.row b=none:=fun b h=>by
   cases δ:H.row b with
   | none=>rfl
   | some x=>simp only[join,δ] at h;cases h
  have o:∀b,(join H E).obj b=none→H.obj b=none:=fun b h=>by
   cases δ:H.obj b with
   | none=>rfl
   | some x=>simp only[join,δ] at h;cases h
  exact⟨fun o'=>c b o' (h.1 o'),r b h.2.1,o b h.2.2.1,fun Φ hb=>⟨fun o'=>c Φ o' ((h.2.2.2 Φ hb).1 o'),r Φ (h.2.2.2 Φ hb).2.1,o Φ (h.2.2.2 Φ hb).2.2⟩⟩
end
end Go.TL
namespace Go.TL
open Go.Conc Go.Proofs
open Go.ConcN (sumTo upd sumTo_upd upd_ne upd_same sumTo_congr le_sumTo)
noncomputable def under (P:Program):Frame:={(default:Frame) with fn:=P.funcs.size,defers:=[],mode:=.panicking [goexitEntry]}
theorem XX {P:Program} {g:FuncId} {cap:Array Value} (Τ:Plain P g) (w:World):stepG P false (born P ⟨.fn (.func g) cap,#[]⟩) w=.go (Go.Conc.G (Frame.enter P g cap .deferred) [under P]) w #[]:=by
 obtain⟨fn,R,γ,ο⟩:=Τ;have gV:¬fn.name = "runtime.NumGoroutine" := by simpa using γ
 have XY:¬fn.body=none:=by intro e;rw[e] at ο;cases ο
 simp[born,stepG,unwind,callDeferred,invoke,callFunc,R,gV,XY,seen,GStep.after,Go.Conc.G,under]
theorem XZ {P:Program} {b:Frame} {fn:Func} (b':P.funcs[b.fn]?=some fn) (eL:fn.results=#[]) (et:b.defers=[]) (hm:b.mode=.returning) (υ:b.kind=.deferred):ky P 0 (Go.Conc.G b [under P]):=by
 refine⟨2,QuitsD.ctl (g':=Go.Conc.G (under P) []) rfl (fun w=>?_) ?_⟩
 ·simp[Go.Conc.G,stepG,unwind,hm,et,b',doReturn,results,eL,υ,under,seen,GStep.after,goexitEntry]
 ·refine QuitsD.ctl (g':={Go.Conc.G (under P) [] with status:=.finished}) rfl (fun w=>?_) ⟨rfl,rfl⟩;simp[Go.Conc.G,stepG,unwind,under,goexitEntry,Frame.catches];rfl
def r7 (l:List θ):θ:=if l.isEmpty then .sl true 0 [] else .ms 1 l.length 0 l.length
def gh (l:List θ):List Row:=.cells 99 1 [r7 l]::bq 110 3 l
theorem HO:r7 []=.sl true 0 []:=rfl
theorem Dx {l:List θ} (h:l≠[]):r7 l=.ms 1 l.length 0 l.length:=by unfold r7;rw[if_neg (by simpa using h)]
theorem NG {l:List θ} {x:θ}:r7 (l++[x])=.ms 1 (l.length+1) 0 (l.length+1):=by rw[Dx (by simp)];simp
theorem Dy (l:List θ):∀r∈gh l,xh r:=by
 intro r h;unfold gh bq at h;rcases List.mem_cons.1 h with rfl|h
 ·exact⟨_,_,_,rfl⟩
 ·split at h
  ·cases h
  ·simp at h;subst h;exact⟨_,_,_,rfl⟩
def vg (β:Nat) (bE:aA) (o:Nat) (fd:Nat→Option Found) (L:List Nat) (E:ψ):Prop:=
 mR β bE E∧∃S B,Holds S B (gh ((L.filterMap fd).map cX)) E∧B[0]?=some (some (o,1))
theorem X0 {S au:aA} {B B':aN} {l dK:List θ} {m:Nat} (h:b0 S au (B.take m) B' ((gh l).take m) (gh dK)) (hm:0<m):B'[0]?=B[0]?:=by
 obtain⟨m,rfl⟩:∃k,m=k+1:=⟨m-1,by omega⟩;obtain⟨r',R,γ⟩:=h.rows 0 (.cells 99 1 [r7 l]) (by simp[gh]);have:r'=.cells 99 1 [r7 dK]:=by simpa[gh] using R.symm
 subst this;rcases γ with⟨l2,_,_,ο⟩|ο
 ·simpa[List.getElem?_take] using ο
 ·have:=ο 1 (by simp);simp[Row.gN] at this
section
variable {β s m o k:Nat} {S bE:aA} {fd:Nat→Option Found} {sp:Spec} {dM:aM} {a b:Int} {v1 v2 vh:Value} {f:Found} {n:Nat}
abbrev lg (s:Nat) (sp:Spec):aR:=⟨ψ.empty,fun _=>none,fun _=>.nil,upd (fun _=>none) s (some sp),fun _=>none,0,false⟩
abbrev Dz (s m o:Nat) (v1 v2 vh:Value):Array Value:=#[ptr s 0,v1,v2,vh,ptr m 0,ptr o 0]
abbrev HP (s m o:Nat) (dM:aM) (a b:Int):List θ:=[.z (ptr s 0),.aa [aP dM.af,aO dM.an,bz dM.cells],.aa [U a],.aa [U b],.z (ptr m 0),.z (ptr o 0)]
theorem NH:(lg s sp).spec s=some sp:=upd_same (fun _=>(none:Option Spec)) s (some sp)
theorem NI (e':sp.aQ=some m) (gg:sp.top<7):iK (lg s sp) s m sp:=⟨rfl,rfl,NH,e',gg,fun _ _=>trivial⟩
theorem X1 (gg:sp.top<7):NA (lg s sp) s sp:=⟨rfl,rfl,NH,gg,fun _ _=>trivial⟩
theorem X2 (e':sp.aQ=some m) (gg:sp.top<7) (dJ:sp.D k ψ.empty) {Q:Value→Prop} {c:Frame} {H:ψ} {v:Option (Nat×aK)} {d1:Deferred} (jC:uV Tryz.prog d1 142 #[ptr s 0])
  (hm:c.mode=.returning) (et:c.defers=[d1]) (υ:c.kind=.deferred) (b':c.fn=141):cf Tryz.prog Q false (br (lg s sp) s (.ch k .done .work) v 0) c [under Tryz.prog] H:=by
 letI:bd:=eF;have δ:Seq (one (br (lg s sp) s (.ch k .done .work) v 0)):=Seq.tf trivial rfl rfl;refine aJ.deferred (x:=one _) δ (by rw[hm];simp) et jC.t1 jC.t2 jC.run (fun y Ο=>?_) _ rfl;cases Ο;refine XN (X1 gg) dJ hm ?_;exact XZ (fn:=Tryz.f141) (by rw[b'];exact Tryz.func141) rfl rfl hm υ
theorem X3 (e':sp.aQ=some m) (gg:sp.top<7) (da:sp.aG=vg β bE o fd) (dJ:sp.D k ψ.empty) {Q:Value→Prop} {c:Frame} {jW:aA} {jX:aN} {iF:ψ} {L:List Nat} {v:Option (Nat×aK)} {d1 d2:Deferred}
  (jC:uV Tryz.prog d1 142 #[ptr s 0]) (mS:uV Tryz.prog d2 145 #[ptr m 0]) (hm:c.mode=.returning) (et:c.defers=[d2,d1]) (υ:c.kind=.deferred) (b':c.fn=141)
  (Α:Holds jW jX (gh (((L++[k]).filterMap fd).map cX)) iF) (e1:jX[0]?=some (some (o,1))) (hi:mR β bE iF) (μ:∃q x,iF.aF β q=some x) :
  cf Tryz.prog Q false (br (lg s sp) s (.ch k (.c5 L) .work) v 0) c [under Tryz.prog] iF:=by
 letI:bd:=eF;have δ:Seq (one (br (lg s sp) s (.ch k (.c5 L) .work) v 0)):=Seq.tf trivial rfl rfl;refine aJ.deferred (x:=one _) δ (by rw[hm];simp) et mS.t1 mS.t2 mS.run (fun y Ο=>?_) _ rfl;cases Ο;refine Xd (x:=lg s sp) (s:=s) (c:={c with defers:=[d1]}) (NI e' gg) Α hm fun jf jg he j5=>⟨ψ.empty,jg,⟨Sub.empty _,Sub.refl _,(Apart.ss _).symm⟩,?_,fun v2 hU hk _=>?_⟩
 ·rw[da];obtain⟨dB,p2,p3⟩:=Α.back he j5;obtain⟨q,x,Υ⟩:=μ;exact⟨hi.ext he (fun b ⟨N,h⟩=>by simp at h) Υ,jf,jX,dB,e1⟩
 ·exact X2 e' gg dJ jC hm rfl υ b'
end
section
variable {β s m o k:Nat} {S bE:aA} {fd:Nat→Option Found} {sp:Spec} {dM:aM} {a b:Int} {v1 v2 vh:Value} {f:Found} {n:Nat}
noncomputable abbrev X4 (vs:Array Value) (ds:List Deferred):Frame:={Frame.enter Tryz.prog 141 vs .deferred with defers:=ds}
noncomputable def DC:Code:=Tryz.f141.body.getD .skip
theorem X5 (e':sp.aQ=some m) (gg:sp.top<7) (da:sp.aG=vg β bE o fd) (dJ:sp.D k ψ.empty) (HQ:∀c:bd,@av c Tryz.prog 78 [cX f,U (-1)] (U n)) (xi:fd k=if 0<n then some f else none) {Q:Value→Prop}
  {au:aA} {H' E:ψ} {L:List Nat} (Α:Holds au [] [] H') (c9:sp.aG L E) (h5:Apart H' E) (hw:∃w,Fits H' w∧Fits E w) (hlen:((L.filterMap fd).map cX).length≤4294967295) (n8:mR β bE H') (X6:∃q x,H'.aF β q=some x)
  {t:Array Value} (ξ:c7 au [] [] [(4,.z (ptr m 0)),(5,.z (ptr o 0)),(6,.aa (cX f).cells)] t) (cd:t.size=20) {vs:Array Value} {d1:Deferred} (jC:uV Tryz.prog d1 142 #[ptr s 0]) {ops:Array Oper} :
  cf Tryz.prog Q false (br (lg s sp) s (.ch k (.c5 L) .work) none 0) (ao (X4 vs [d1]) t [.inRegion ops [],.code (dx [1,1,1] DC)]) [under Tryz.prog] (join H' E):=by
 letI:bd:=eF;have δ:Seq (one (br (lg s sp) s (.ch k (.c5 L) .work) none 0)):=Seq.tf trivial rfl rfl;rw[da] at c9;obtain⟨hi,g7,qM,vi,e1⟩:=c9;obtain⟨l,ω⟩:∃l,l=(L.filterMap fd).map cX:=⟨_,rfl⟩;have ki:l.length≤4294967295:=ω▸hlen;rw[←ω] at vi;obtain⟨HR,l1,l2⟩:=ND Α vi h5 hw (Dy l);have ks:∀b,qM.has b→β<b:=fun b=>hi.blocks vi (Dy l);have HS:∃q x,(join H' E).aF β q=some x:=let ⟨q,x,h⟩:=X6;⟨q,x,join_some h⟩;have ay:t.getD 5 undef=ptr o 0:=by
  have:=ξ 5;generalize t.getD 5 undef=u at this;cases this;rfl
 have qJ:c7 (au.plus g7) qM (gh l) [(4,.z (ptr m 0)),(5,.ag 0 1 0 0),(6,.aa (cX f).cells)] t:=fun i=>by
  have ae:=(ξ i).later l1;simp only[a5] at ae ⊢;by_cases cu:4=i
  ·simpa[cu] using ae
  by_cases eR:5=i
  ·subst eR;simp only[show ¬4=5 by decide,if_false,if_true];rw[ay];have:=aj.ag (S:=au.plus g7) (B:=qM) (σ:=gh l) (id:=0) (n:=1) (i:=0) (j:=0) (k:=1) (t:=99) (l:=[r7 l]) (b:=o) (N:=1) (by simp[gh]) rfl e1;simpa using this
  ·simpa[cu,eR] using ae
 have leave:∀(dK:List θ) (hU:aA) (jh:aN) (hk:ψ) (c:Frame) (d2:Deferred),dK=((L++[k]).filterMap fd).map cX→eO 1 (au.plus g7) qM (join H' E) (gh l) hU jh hk (gh dK)→Holds hU jh (gh dK) hk→uV Tryz.prog d2 145 #[ptr m 0]→
   c.mode=.returning→c.defers=[d2,d1]→c.kind=.deferred→c.fn=141→cf Tryz.prog Q false (br (lg s sp) s (.ch k (.c5 L) .work) none 0) c [under Tryz.prog] hk:=fun dK hU jh hk c d2 e bO HT mS c1 c2 c3 c4=>by
  subst e;obtain⟨q,x,Υ⟩:=HS;exact X3 e' gg da dJ jC mS c1 c2 c3 c4 HT (by rw[X0 bO.later (by omega)];exact e1) ((n8.join hi).ext bO.ext ks Υ) (NF bO.ext (fun h=>Nat.lt_irrefl _ (ks β h)) ⟨q,x,Υ⟩)
 refine V.here (x:=one _) (m:=1) (nt:=20) (S:=au.plus g7) (B:=qM) (σ:=gh l) (env:=[(4,.z (ptr m 0)),(5,.ag 0 1 0 0),(6,.aa (cX f).cells)]) ?_ ⟨HR,qJ,cd,by simp[gh]⟩ _ rfl;refine V.a' δ rfl ?_;refine W.bB ?_;simp only[DC,Tryz.f141,Option.getD_some,dx]
 repeat first|apply aV|apply wb|apply aX|apply wd
 refine W.ca (.stop ?_);refine V.defer δ rfl rfl rfl rfl rfl rfl rfl ⟨_,Tryz.func145,rfl,rfl⟩ fun jW jX iF t3 d2 HF g5 fb rO mS=>?_;obtain rfl:=l4 (l:=[ptr m 0]) rO;rintro y rfl;refine V.here (x:=one _) (m:=1) (nt:=20) ?_ fb _ rfl;refine V.a' δ rfl ?_;refine W.bB ?_;(repeat (first|apply aV|apply wb|apply aX|apply wd));refine ν fun J I=>?_;simp;(repeat (rw[ζ];simp));refine av.c (HQ _) (aI.refl _) (by simp) (by simp) ?_;simp;(repeat (rw[ζ];simp));apply I;clear I J;by_cases Η:0<n
 ·refine al (by simp[Η]) ?_;refine W.hl (A:=[19]) Θ [] (gh (l++[cX f])) (.stop ?_) (by
   by_cases Ν:l=[]
   ·subst Ν;(try simp);(repeat (rw[ζ];simp[gh,HO,iG]));(try simp[gh,HO,iG]);exact⟨rfl,rfl⟩
   ·(try simp);(repeat (rw[ζ];simp[gh,Dx Ν,ea Ν,NG,rR]));(try simp[gh,Dx Ν,ea Ν,NG,rR]);exact ki)
  intro hU jh hk t5 jH kz;refine aJ.rb δ rfl rfl ?_;rintro y rfl;exact leave _ hU jh hk _ d2 (by rw[List.filterMap_append,List.map_append,←ω];simp[xi,Η]) (g5.trans jH) kz.holds mS rfl rfl rfl rfl
 ·refine ah (by simp;omega) ?_
  repeat first|apply aV|apply wb|apply aX|apply wd
  refine W.stop ?_;intro hU jh hk t5 jH kz;refine aJ.rb δ rfl rfl ?_;rintro y rfl;exact leave _ hU jh hk _ d2 (by rw[List.filterMap_append,List.map_append,←ω];simp[xi,Η]) (g5.trans jH) kz.holds mS rfl rfl rfl rfl
theorem vj {S:aA} {B:aN} {σ:List Row} {env env':Χ} {t:Array Value} (h:c7 S B σ env t) (ξ:∀p∈env',a5 env p.1=p.2):c7 S B σ env' t:=by
 induction env' with
 | nil=>exact fun i=>.cp _
 | cons p l Γ=>
  intro i;simp only[a5];split
  ·rename_i e;have:=ξ p (by simp);rw[←this,e];exact h i
  ·exact Γ (fun q Υ=>ξ q (by simp[Υ])) i
theorem X7 (e':sp.aQ=some m) (gg:sp.top<7) (da:sp.aG=vg β bE o fd) (dJ:sp.D k ψ.empty) (X8:∀c:bd,@av c Tryz.prog 143 [eP dM,ax (a,b)] (cX f))
  (HQ:∀c:bd,@av c Tryz.prog 78 [cX f,U (-1)] (U n)) (xi:fd k=if 0<n then some f else none) (X9:∀L:List Nat,L.Nodup→((L.filterMap fd).map cX).length≤4294967295)
  (μ:∃q v,S β q=some v) (fS:∀b q v,S b q=some v→bE b q≠none∨β<b) (HU:fl S [] [] (HP s m o dM a b) (Dz s m o v1 v2 vh)) {Q:Value→Prop} :
  Goes Tryz.prog Q false (born Tryz.prog ⟨.fn (.func 141) (Dz s m o v1 v2 vh),#[]⟩) {br (lg s sp) s (.ch k .idle .work) none 0 with G:=ma S}:=by
 letI:bd:=eF;have tn:Seq (one (br (lg s sp) s (.ch k .idle .work) none 0)):=Seq.tf trivial rfl rfl;refine Quiet.goes (.cons ⟨rfl,rfl⟩ (fun w=>XX ⟨_,Tryz.func141,rfl,rfl⟩ w) (.nil _)) (.inl rfl) ⟨rfl,rfl⟩ ?_;show cf Tryz.prog Q false (br (lg s sp) s (.ch k .idle .work) none 0) (Frame.enter Tryz.prog 141 (Dz s m o v1 v2 vh) .deferred) [under Tryz.prog] (ma S);rw[pj (body:=DC) Tryz.func141 rfl];refine V.here (x:=one _) (m:=0) (nt:=20) (S:=S) (B:=[]) (σ:=[]) (env:=entry 0 (HP s m o dM a b)) ?_ (fj.enter XS HU (Nat.le_refl _) (by simp)) _ rfl;refine V.a' tn rfl ?_;simp only[DC,Tryz.f141,Option.getD_some]
 repeat first|apply aV|apply wb|apply aX|apply wd
 refine W.ca (.stop ?_);refine V.defer tn rfl rfl rfl rfl rfl rfl rfl ⟨_,Tryz.func142,rfl,rfl⟩ fun jW jX iF t3 d1 HF g5 fb rO jC=>?_;obtain rfl:=l4 (l:=[ptr s 0]) rO;obtain rfl:jX=[]:=dq.1 fb.holds.len;rintro y rfl;refine V.here (x:=one _) (m:=0) (nt:=20) ?_ fb _ rfl;refine V.a' tn rfl ?_;refine W.bB ?_;(repeat (first|apply aV|apply wb|apply aX|apply wd));refine de (A:=[6]) Θ fun J I=>?_;simp;(repeat (rw[ζ];simp));refine av.c (X8 _) (aI.refl _) (by simp) (by simp) ?_;simp;(repeat (rw[ζ];simp));apply I;clear I J;refine W.fix (id:=0) (σ':=[]) (Nat.zero_le _) rfl (by simp) (by simp) rfl [(4,.z (ptr m 0)),(5,.z (ptr o 0)),(6,.aa (cX f).cells)] (by simp[entry]) ?_
 repeat first|apply aV|apply wb|apply aX|apply wd
 refine W.ca (.stop ?_);refine V.call tn ⟨rfl,rfl,by simp[Frame.enter],rfl⟩ rfl rfl rfl ⟨_,Tryz.func144,rfl,rfl⟩ fun jf ot jg t4 Xc rN pn Hw=>?_;obtain rfl:=l4 (l:=[ptr m 0]) Hw;obtain rfl:ot=[]:=dq.1 pn.holds.len;rintro y rfl;refine W6 (NI e' gg) pn.holds fun hU hk L E NJ HT c9 h5 ⟨jS,JN,hw⟩=>?_;rw[hO rfl];have qo:Ext S [] (ma S) hU [] hk:=g5.ext.trans (rN.ext.trans NJ);obtain⟨hf,u0,DD⟩:=μ;have ks:∀b,¬aN.has ([]:aN) b:=fun b ⟨N,h⟩=>by simp at h
 exact X5 e' gg da dJ HQ xi HT c9 h5 hw (X9 L jS) ((XV fS).ext qo (fun b h=>absurd h (ks b)) (HL DD)) (NF qo (ks β) ⟨hf,_,HL DD⟩)
  (by
   refine c7.later (vj (pn.put (a:=.z (.tuple #[])) rfl (.z _)).cj (by simp[b5])) ⟨NJ.c6,fun id r h=>by simp at h⟩) (pn.put (a:=.z (.tuple #[])) rfl (.z _)).size jC
end
end Go.TL
namespace Go.TL
open Go.Conc Go.Proofs
variable [bd]
noncomputable abbrev X' (vs:Array Value):Frame:=Frame.enter Tryz.prog 126 vs .normal
abbrev qN (L:Nat):θ:=.fn (.yield L) [] []
structure Ya (Q:Value→Prop) (mn:Bool) (x:gy) (cs:List Frame) (tp:Frame) (o:Base) (L:Nat) (r:Loop) (n:Nat) (iM iN:Row) (Fnd:List (List Nat)→Prop):Prop where
 m:o.m=2
 cU:eN 2 iM
 bI:eN 2 iN
 cK:r.params.size=1
 round:∀(l:List Nat) (rem:List (List Nat)),Fnd (l::rem)→l.length≤n→(∀x∈l,x<n)→∀(S:aA) (B:aN) (H:ψ) (ws:Array Value) (c:Frame),eO 2 o.S o.B o.H o.σ S B H [iM,iN,fc l]→Holds S B [iM,iN,fc l] H→¬B.has L→H.obj L=some (.loop r)→fl S B [iM,iN,fc l] [.ms 2 l.length 0 l.length] ws→
  (Fnd rem→∀(au:aA) (B':aN) (H':ψ),eO 2 o.S o.B o.H o.σ au B' H' [iM,iN,fc l]→b0 S au B B' [iM,iN,fc l] [iM,iN,fc l]→Holds au B' [iM,iN,fc l] H'→¬B'.has L→H'.obj L=some (.loop r)→aJ Tryz.prog Q mn x (c.finish (.bool true)) (tp::cs) H')→
  (∀H',(∀(cO:aA) (bJ:ψ),Ext eX [] H' cO [] bJ→aJ Tryz.prog Q mn x (tp.finish (.tuple #[])) cs bJ)→aJ Tryz.prog Q mn x (c.finish (.bool false)) (tp::cs) H')→
  aJ Tryz.prog Q mn x (Frame.round L r.fn ((r.params.zip ws).foldl (fun tmps (t,a)=>tmps.setIfInBounds t a) r.tmps) r.assign r.body .normal) (c::tp::cs) H
 done:Fnd []→∀(S:aA) (B:aN) (H:ψ),eO 2 o.S o.B o.H o.σ S B H [iM,iN]→Holds S B [iM,iN] H→¬B.has L→H.obj L=some (.loop r)→aJ Tryz.prog Q mn x (tp.finish (.tuple #[])) cs H
def qO (c i:Nat):List Int:=(List.range i).map (fun j:Nat=>(j:Int))++List.replicate (c-i) 0
theorem Yb {c i:Nat} (h:i<c):(qO c i).set i (i:Int)=qO c (i+1):=by
 unfold qO;have Ε:((List.range i).map fun j:Nat=>(j:Int)).length=i:=by simp
 have Δ:c-i=(c-(i+1))+1:=by omega
 rw[List.set_append_right _ _ (by omega),Ε,Nat.sub_self,Δ,List.replicate_succ,List.set_cons_zero,List.range_succ,List.map_append];simp
theorem Yc {c i:Nat} (h:i≤c):(qO c i).length=c:=by simp[qO];omega
theorem Yd (c:Nat):(qO c c).map U=(List.range c).map fun n:Nat=>U n:=by simp[qO]
section
variable {Q:Value→Prop} {mn:Bool} {x:gy} {cs:List Frame} {tp:Frame} {o:Base} {L:Nat} {r:Loop} {n:Nat} {iM iN:Row} {Fnd:List (List Nat)→Prop} {vs:Array Value}
theorem Ye (δ:Seq x) (Η:n≤10) (hC:Ya Q mn x cs tp o L r n iM iN Fnd) (ae:Fnd (jY n 0)) :
  rY Tryz.prog Q mn x (X' vs) (tp::cs) 72 o L r [.code (Tryz.f126.body.getD .skip)] (entry 0 [qN L,.aa [U n]]) [iM,iN]:=by
 have hm:=hC.m;refine rY.a' δ rfl ?_;simp only[Tryz.f126,Option.getD_some];have zq:=eD (show n<11 by omega) (by omega);(repeat (first|apply ι|(refine ν fun J I=>?_;simp;(repeat (rw[ζ];simp[zq]));apply I;clear I J)));refine W.iter (fun c:Nat=>c≤n+1∧Fnd (jY n c)) (fun c=>[(0,qN L),(1,.aa [U n]),(9,U ((n:Int)+1)),(10,U c)]) (fun _=>[iM,iN]) (fun c=>n+1-c) 0 ⟨Nat.zero_le _,ae⟩ rfl (by simp[entry,zq]) (fun c η Γ=>?_);obtain⟨nb,gx⟩:=η;(repeat (first|apply ι|(refine ν fun J I=>?_;simp;(repeat (rw[ζ];simp));apply I;clear I J)));by_cases nZ:c<n+1
 ·refine al (by simp;omega) ?_;(repeat (first|apply ι|(refine ν fun J I=>?_;simp;(repeat (rw[ζ];simp));apply I;clear I J)));have jP:(0:Int)≤c:=by omega
  have Yf:(8:Int)*c≤281474976710656:=by omega
  refine de (A:=[14]) Θ fun J I=>?_;simp;(repeat (rw[ζ];simp));(try simp[Yf]);(repeat (rw[ζ];simp));apply I;clear I J;(repeat (first|apply ι|(refine ν fun J I=>?_;simp;(repeat (rw[ζ];simp));apply I;clear I J)));refine W.iter (fun i:Nat=>i≤c) (fun i=>[(0,qN L),(1,.aa [U n]),(9,U ((n:Int)+1)),(10,U c),(3,U c),(4,.ms 2 c 0 c),(16,U c),(17,U i)]) (fun i=>[iM,iN,.cells 3 1 ((qO c i).map U)]) (fun i=>c-i) 0 (Nat.zero_le _) (by simp[qO]) (by simp) (fun i hi gq=>?_);(repeat (first|apply ι|(refine ν fun J I=>?_;simp;(repeat (rw[ζ];simp));apply I;clear I J)));by_cases xj:i<c
  ·refine al (by simp[xj]) ?_;have kn:=eD xj (show c<2 ^ 62 by omega);have BU:=Yc (Nat.le_of_lt xj);have oa:=Yb xj;obtain⟨G,cY⟩:∃G,G=qO c i:=⟨_,rfl⟩;rw[←cY] at BU oa ⊢;have Yg:i<G.length:=by omega
   (repeat (first|apply ι|(refine ν fun J I=>?_;simp;(repeat (rw[ζ];simp[BU,xj,Yg,kn]));apply I;clear I J)));refine W.to (gq (i+1) xj (by omega)) ?_ ?_
   ·rw[←oa];simp
   ·simp[kn]
  ·have dO:i=c:=by omega
   subst dO;refine ah (by simp) ?_;refine W.exit rfl ?_;rw[Yd]
   repeat first|apply ι
   refine W.iter (fun x:Nat×List Nat=>pD n x.1 x.2=true∧x.2.length=i∧Fnd (nC n x.1 x.2++jY n (i+1))) (fun _=>[(0,qN L),(1,.aa [U n]),(9,U ((n:Int)+1)),(10,U i),(3,U i),(4,.ms 2 i 0 i)]) (fun x=>[iM,iN,fc x.2]) (fun x=>x.1) (300,List.range i)
    ⟨Wp n (by omega) i nZ,by simp,by rw[←Wq nZ];exact gx⟩ rfl (by simp) (fun x δ mL=>?_)
   obtain⟨g,l⟩:=x;obtain⟨dA,ki,HV⟩:=δ;simp only at dA ki HV ⊢
   repeat first|apply ι
   refine W.ca ?_;refine W.part (A:=[]) Θ [0,1] [2,3] rfl fun J I=>?_;(try simp);(repeat (rw[ζ];simp));apply I;clear I J;refine W.stop ?_;obtain⟨rem,Yh,NK⟩:∃rem,nC n g l++jY n (i+1)=l::rem∧((pC n l=none∧rem=jY n (i+1))∨∃ef ad,pC n l=some ef∧g=ad+1∧rem=nC n ad ef++jY n (i+1)∧pD n ad ef=true):=by
    cases tq:pC n l with
    | none=>exact⟨jY n (i+1),by rw[Wt tq];rfl,.inl ⟨rfl,rfl⟩⟩
    | some ef=>
     obtain⟨ad,Ε,Δ,a4⟩:=Wu dA tq;exact⟨nC n ad ef++jY n (i+1),by rw[Δ];rfl,.inr ⟨ef,ad,rfl,Ε,rfl,a4⟩⟩
   rw[Yh] at HV;have aE:=Ws dA;refine rY.yield δ ⟨rfl,rfl,by simp[Frame.enter],rfl⟩ rfl rfl rfl hC.cK.symm fun S B H t ws μ χ ks aD hv=>?_;refine hC.round l rem HV (by omega) aE S B H ws _ (by rw[←hm];exact μ) χ.holds ks aD (by rw[ki];exact hv) (fun HW au B' H' dV CF iD Yi u4=>?_) (fun H' ξ=>?_)
   ·rw[hO rfl];have zS:c7 au B' [iM,iN,fc l] [(27,.z (.bool true)),(0,qN L),(1,.aa [U n]),(9,U ((n:Int)+1)),(10,U i),(3,U i),(4,.ms 2 i 0 i)] (t.setIfInBounds 27 (.bool true)):=vj (c7.put (χ.cj.later CF) (d:=27) (by rw[χ.size];omega) (.z _)) (by simp);refine(rY.a' (env:=[(27,.z (.bool true)),(0,qN L),(1,.aa [U n]),(9,U ((n:Int)+1)),(10,U i),(3,U i),(4,.ms 2 i 0 i)]) (σ:=[iM,iN,fc l]) (o:=o) (L:=L) (r:=r) (nt:=72) δ rfl ?_) au B' H' _ (by rw[hm];exact dV) ⟨iD,zS,Eq.trans (Array.size_setIfInBounds ..) χ.size,by rw[hm];simp⟩ Yi u4;refine W.part (A:=[]) Θ [3] [] rfl fun J I=>?_;(try simp);(repeat (rw[ζ];simp));apply I;clear I J;refine W.bB ?_;refine ah rfl ?_;have iL:IntKind.i64.wrap ((i:Int)-1)=(i:Int)-1:=IntWalk.i64_in _ (by omega);(repeat (first|apply ι|(refine ν fun J I=>?_;simp;(repeat (rw[ζ];simp[iL]));apply I;clear I J)));refine W.iter (fun e:Nat=>e≤i∧pB n l i=pB n l e) (fun e=>[(0,qN L),(1,.aa [U n]),(9,U ((n:Int)+1)),(10,U i),(3,U i),(4,.ms 2 i 0 i),(6,U ((e:Int)-1))]) (fun _=>[iM,iN,fc l]) (fun e=>e) i ⟨Nat.le_refl _,rfl⟩ rfl (by simp[iL]) (fun e he ym=>?_);obtain⟨gυ,NL⟩:=he
    repeat first|apply ι
    have zr:=eD nZ (show n+1<2 ^ 62 by omega)
    have rI:pC n l=(pB n l e).map fun q=>l5 l q (l.length-q):=by unfold pC;rw[ki,NL]
    cases e with
    | zero=>
     have Fg:rem=jY n (i+1):=by
      rcases NK with⟨_,h⟩|⟨ef,ad,h,_⟩
      ·exact h
      ·rw[rI] at h;simp[pB] at h
     rw[Fg] at HW;refine W.draw (A:=[]) Θ mixed fun J I=>?_;simp;(repeat (rw[bp];simp));refine⟨bL (by kernel_rfl),I _ _ ?_⟩;clear I J;refine ah rfl ?_;refine W.exit rfl ?_;(repeat (first|apply ι|(refine ν fun J I=>?_;simp;(repeat (rw[ζ];simp));apply I;clear I J)));refine al rfl ?_;refine W.exit rfl ?_;refine W.drop (h:=2) (σ':=[iM,iN]) (by rw[hm];exact Nat.le_refl _) (by simp) (fun id q bU Υ=>by
      match id,bU,Υ with
      | 0,_,Υ=>simp at Υ;subst Υ;exact hC.cU
      | 1,_,Υ=>simp at Υ;subst Υ;exact hC.bI) rfl [(0,qN L),(1,.aa [U n]),(9,U ((n:Int)+1)),(10,U i)] (by simp[k2]) ?_
     (repeat (first|apply ι|(refine ν fun J I=>?_;simp;(repeat (rw[ζ];simp[zr]));apply I;clear I J)));refine W.to (Γ (i+1) ⟨nZ,HW⟩ (by omega)) rfl ?_;simp[zr]
    | succ e=>
     have my:e<l.length:=by omega
     have hle:=aE _ (List.getElem_mem my)
     have DF:l.getD e 0=l[e]:=by simp[List.getD_eq_getElem?_getD,my]
     have h3:IntKind.i64.wrap ((n:Int)-i)=(n:Int)-i:=IntWalk.i64_in _ (by omega)
     have iO:IntKind.i64.wrap ((n:Int)-i+e)=(n:Int)-i+e:=IntWalk.i64_in _ (by omega)
     have oE:IntKind.i64.wrap ((e:Int)-1)=(e:Int)-1:=IntWalk.i64_in _ (by omega)
     have NM:e<i:=by omega
     have qJ:((e+1:Nat):Int)-1=e:=by omega
     rw[qJ];refine W.draw (A:=[]) Θ mixed fun J I=>?_;simp;(repeat (rw[bp];simp[my,NM,ki,h3,iO]));refine⟨bL (by kernel_rfl),I _ _ ?_⟩;clear I J;by_cases Υ:l[e]+i=n+e
     ·have DG:pB n l (e+1)=pB n l e:=by rw[pB,if_pos (by rw[DF,ki];exact Υ)]
      refine al (by simp;omega) ?_;(repeat (first|apply ι|(refine ν fun J I=>?_;simp;(repeat (rw[ζ];simp[oE]));apply I;clear I J)));refine W.to (ym e ⟨by omega,by rw[NL,DG]⟩ (by omega)) rfl ?_;simp[oE]
     ·have DG:pB n l (e+1)=some e:=by rw[pB,if_neg (by rw[DF,ki];exact Υ)]
      refine ah (by simp;omega) ?_;refine W.exit rfl ?_;(repeat (first|apply ι|(refine ν fun J I=>?_;simp;(repeat (rw[ζ];simp));apply I;clear I J)));refine ah (by simp) ?_;obtain⟨ef,ad,hY,gφ,Yj,Yk⟩:∃ef ad,pC n l=some ef∧g=ad+1∧rem=nC n ad ef++jY n (i+1)∧pD n ad ef=true:=by
       rcases NK with⟨h,_⟩|h
       ·rw[rI,DG] at h;cases h
       ·exact h
      have jj:ef=l5 l e (i-e):=by
       rw[rI,DG] at hY;simp at hY;rw[←hY,ki]
      have Yl:IntKind.i64.wrap ((l[e]:Int)+1)=(l[e]:Int)+1:=IntWalk.i64_in _ (by omega)
      have NN:IntKind.i64.wrap ((e:Int)+1)=(e:Int)+1:=IntWalk.i64_in _ (by omega);(repeat (first|apply ι|(refine ν fun J I=>?_;simp;(repeat (rw[ζ];simp[my,NM,ki,Yl,NN]));apply I;clear I J)));refine W.iter (fun p:Nat=>e+1≤p∧p≤i) (fun p=>[(0,qN L),(1,.aa [U n]),(9,U ((n:Int)+1)),(10,U i),(3,U i),(4,.ms 2 i 0 i),(7,U p)]) (fun p=>[iM,iN,fc (l5 l e (p-e))]) (fun p=>i-p) (e+1) ⟨Nat.le_refl _,by omega⟩ (by
       have:e+1-e=1:=by omega
       rw[this,Wv my];simp) (by simp[NN]) (fun p χ aB=>?_)
      obtain⟨lS,lT⟩:=χ;(repeat (first|apply ι|(refine ν fun J I=>?_;simp;(repeat (rw[ζ];simp));apply I;clear I J)));by_cases NO:p<i
      ·refine al (by simp[NO]) ?_;obtain⟨q,gχ⟩:∃q,q=p-1:=⟨_,rfl⟩;obtain⟨ab,a8⟩:∃ab,ab=l5 l e (p-e):=⟨_,rfl⟩;have wO:ab.length=i:=by rw[a8,MS (by omega),ki]
       have NP:q<ab.length:=by omega
       have Ym:p<ab.length:=by omega
       have Yn:q<i:=by omega
       have DH:ab[q]=l[e]+(p-e):=by
        have:=Ww (l:=l) (i:=e) (k:=p-e) (by omega) (by omega)
        have Ε:e+(p-e)-1=q:=by omega
        rw[Ε,←a8,DF] at this;simpa[List.getD_eq_getElem?_getD,NP] using this
       have sO:ab.set p (ab[q]+1)=l5 l e (p+1-e):=by
        have:=Wx (l:=l) (i:=e) (k:=p-e) (by omega)
        have Ε:e+(p-e)=p:=by omega
        have Δ:p-e+1=p+1-e:=by omega
        rw[Ε,Δ,←a8,DF,←DH] at this;exact this
       have HX:ab[q]<100:=by omega
       have Yo:IntKind.i64.wrap ((p:Int)-1)=(q:Int):=by rw[IntWalk.i64_in _ (by omega)];omega
       have Yp:IntKind.i64.wrap ((ab[q]:Int)+1)=(ab[q]:Int)+1:=IntWalk.i64_in _ (by omega)
       have NQ:IntKind.i64.wrap ((p:Int)+1)=(p:Int)+1:=IntWalk.i64_in _ (by omega);rw[←a8];(repeat (first|apply ι|(refine ν fun J I=>?_;simp;(repeat (rw[ζ];simp[Yo,NP,Ym,Yn,NO,wO,Yp,NQ]));apply I;clear I J)));refine W.to (aB (p+1) ⟨by omega,by omega⟩ (by omega)) ?_ ?_
       ·rw[←sO];simp
       ·simp[NQ]
      ·have HY:p=i:=by omega
       subst HY;refine ah (by simp) ?_;refine W.exit rfl ?_
       repeat first|apply ι
       refine W.to (mL (ad,ef) ⟨Yk,by rw[jj,MS (by omega),ki],by rw[←Yj];exact HW⟩ (by show ad<g;omega)) (by rw[jj]) ?_;simp
   ·rw[hO rfl];have zS:c7 eX [] [] [(27,.z (.bool false))] (t.setIfInBounds 27 (.bool false)):=fun j=>by
     simp only[a5];split
     ·rename_i e;subst e;have:(t.setIfInBounds 27 (Value.bool false)).getD 27 undef=.bool false:=by
       have Yq:27<t.size:=by rw[χ.size];omega
       simp[Array.getD_eq_getD_getElem?,Yq]
      rw[this];exact .z _
     ·exact .cp _
    refine V.here (m:=0) (nt:=72) (S:=eX) (B:=[]) (σ:=[]) (env:=[(27,.z (.bool false))]) ?_ ⟨xa H',zS,Eq.trans (Array.size_setIfInBounds ..) χ.size,Nat.zero_le _⟩;refine V.a' δ rfl ?_;refine W.part (A:=[]) Θ [3] [] rfl fun J I=>?_;(try simp);(repeat (rw[ζ];simp));apply I;clear I J;refine W.bB ?_;refine al rfl ?_;refine W.stop ?_;refine V.Hh δ rfl rfl rfl rfl Tryz.func126 rfl fun bE bK H1 po iZ=>?_;obtain rfl:bK=[]:=dq.1 iZ.len;exact ξ bE H1 po.ext
 ·have u5:c=n+1:=by omega
  subst u5;refine ah (by simp) ?_;refine W.exit rfl ?_;refine W.stop ?_;intro S B H t μ χ ks aD;rw[Wr] at gx;refine aJ.rb δ rfl rfl (aJ.back δ rfl rfl (.inl rfl) Tryz.func126 ?_);rw[results_none rfl];rw[hm] at μ;exact ς.pure' (hC.done gx S B H μ χ.holds ks aD)
end
end Go.TL
