import Derived.Conc.Own2
import Derived.Test.YtlabjopijpkiaaaGreatVAR
import Derived.Test.YtlabjopijpkiaaaGreatVAS
import Derived.Test.YtlabjopijpkiaaaGreatVAT
import Derived.Test.YtlabjopijpkiaaaGreatVAW
set_option maxHeartbeats 16000000
set_option maxRecDepth 20000
set_option linter.unusedSectionVars false
set_option linter.unusedSimpArgs false
set_option linter.unusedVariables false
namespace Go.TL
open Go.Conc
open Go.ConcN (upd)
def rN (S:aJ) (H:χ):χ:={H with aO:=λb o=>match S b o with|some v=>some (v,false)|none=>H.aO b o}
def m8 (S:aJ):χ:=⟨λb o=>(S b o).map (·,false),λ_=>none,λ_=>none⟩
def aJ.plus (S T:aJ):aJ:=λb o=>match S b o with|some v=>some v|none=>T b o
structure nR (β:Nat) (bN:aJ) (E:χ):Prop where
 aO:∀b o x,E.aO b o=some x->bN b o≠none\/β<b
 row:∀b x,E.row b=some x->β<b
 obj:∀b x,E.obj b=some x->β<b
def yj (r:Row):Prop:=∃t k l,r=.cells t k l
section
variable {S aE hO fu bN:aJ} {B B':aV} {σ σ':List Row} {H H' ec E G:χ} {β:Nat}
theorem AP {b o:Nat} {v:Value} (h:S b o=some v):(rN S H).aO b o=some (v,false):=by simp only[rN,h]
theorem IG {b o:Nat} (h:S b o=none):(rN S H).aO b o=H.aO b o:=by simp only[rN,h]
theorem IH {b o:Nat} {v:Value} (h:S b o=some v):(m8 S).aO b o=some (v,false):=by simp only[m8,h];rfl
theorem EL {b o:Nat} {x:Value×Bool} (h:(m8 S).aO b o=some x):∃v,S b o=some v/\x=(v,false):=by
 cases ν:S b o with
 | none=>simp[m8,ν] at h
 | some v=>exact⟨v,rfl,by simp[m8,ν] at h;exact h.symm⟩
theorem AQ {b o:Nat} {v:Value} (h:S b o=some v):S.plus hO b o=some v:=by simp only[aJ.plus,h]
theorem EM {b o:Nat} (h:S b o=none):S.plus hO b o=hO b o:=by simp only[aJ.plus,h]
theorem join_some {b o:Nat} {x:Value×Bool} (h:H.aO b o=some x):(join H E).aO b o=some x:=by simp only[join,h]
theorem join_none {b o:Nat} (h:H.aO b o=none):(join H E).aO b o=E.aO b o:=by simp only[join,h]
theorem Zd {b:Nat} {x:TypeId×Nat} (h:(join H E).row b=some x):H.row b=some x\/E.row b=some x:=by
 cases ι:H.row b with
 | none=>simp only[join,ι] at h;exact .inr h
 | some y=>simp only[join,ι] at h;exact .inl h
theorem Ze {b:Nat} {x:Obj} (h:(join H E).obj b=some x):H.obj b=some x\/E.obj b=some x:=by
 cases ι:H.obj b with
 | none=>simp only[join,ι] at h;exact .inr h
 | some y=>simp only[join,ι] at h;exact .inl h
theorem Zf (Α:Holds S [] [] H):Split H (rN S H) (m8 S):=by
 refine⟨⟨λb o v p h=>?_,λb x h=>h,λb x h=>h⟩,⟨λb o v p h=>?_,λb x h=>(by cases h),λb x h=>(by cases h)⟩,⟨λb o ⟨v,h⟩ ⟨x,k⟩=>?_,λb o ⟨v,h⟩ _=>?_,λb _ ⟨x,h⟩=>(by cases h)⟩⟩
 ·cases ν:S b o with
  | some u=>
   rw[AP ν] at h;cases h;obtain⟨fK,ψ⟩:=Α.dt b o _ ν;exact⟨fK,ψ,λe=>by cases e⟩
  | none=>rw[IG ν] at h;exact⟨p,h,id⟩
 ·obtain⟨u,ν,e⟩:=EL h;cases e;obtain⟨fK,ψ⟩:=Α.dt b o _ ν;exact⟨fK,ψ,λe=>by cases e⟩
 ·obtain⟨u,ν,e⟩:=EL k;rw[AP ν] at h;cases h
 ·obtain⟨u,ν,e⟩:=EL h;cases e
theorem Zg (Α:Holds S [] [] H):Holds S [] [] (rN S H):=
 ⟨λb o v h=>⟨false,AP h⟩,rfl,λid r bo h=>by simp at h,λi j ez cg b gU gV _ h=>by simp at h,λid r b N h=>by simp at h⟩
theorem Zh:Holds S [] [] (m8 S):=
 ⟨λb o v h=>⟨false,IH h⟩,rfl,λid r bo h=>by simp at h,λi j ez cg b gU gV _ h=>by simp at h,λid r b N h=>by simp at h⟩
theorem Zi (Α:Holds S [] [] H):Ext S [] H S [] (rN S H):=by
 refine⟨λ_ _ _ h=>h,λb _ _=>⟨λo=>?_,rfl,rfl⟩,λb h=>.inl h,λb o v h=>.inl h,λb h=>?_⟩
 ·cases ν:S b o with
  | none=>exact .inl (IG ν)
  | some v=>
   obtain⟨p,ψ⟩:=Α.dt b o v ν;exact .inr ⟨v,p,rfl,ψ,AP ν⟩
 ·have key:∀b o,(rN S H).aO b o=none->H.aO b o=none:=λb o h=>by
   cases ν:S b o with
   | none=>rw[IG ν] at h;exact h
   | some v=>rw[AP ν] at h;cases h
  exact⟨λo=>key b o (h.1 o),h.2.1,h.2.2.1,λΨ hb=>⟨λo=>key Ψ o ((h.2.2.2 Ψ hb).1 o),(h.2.2.2 Ψ hb).2⟩⟩
theorem Holds.sk (Α:Holds S B σ H) (κ:∀b,¬H.fresh b->kJ H H' b) (Ξ:∀b,H'.fresh b->H.fresh b):Holds S B σ H'/\Ext S B H S B H':=by
 have Cv:∀b o x,H.aO b o=some x->¬H.fresh b:=λb o x h Υ=>by rw[Υ.1 o] at h;cases h
 refine⟨⟨λb o v h=>?_,Α.len,λid r bo ι e7=>?_,Α.inj,Α.sep⟩,⟨λ_ _ _ h=>h,λb _ Υ=>nv.of (κ b Υ),λb h=>.inl h,λb o v h=>.inl h,Ξ⟩⟩
 ·obtain⟨p,ψ⟩:=Α.dt b o v h;exact⟨p,by rw[(κ b (Cv b o _ ψ)).1];exact ψ⟩
 ·by_cases fv:r.live
  ·refine(Α.row id r bo ι e7).later (b8.refl S B σ) (λb N e=>κ b (Α.n8 ι fv (by rw[e7,e]))) λm left cur e=>?_;subst e;obtain⟨_,_,aW,k8,xs,clock,seen,_,J,⟨es,U⟩,_⟩:=Α.row id _ bo ι e7;exact⟨rfl,rfl,λb N hb=>κ b (Α.n8 U trivial hb)⟩
  ·cases r<;>first|exact absurd trivial fv|trivial
theorem Ext.sk (h:Ext fj [] H aE [] H') {b:Nat} (Υ:¬H.fresh b):kJ H H' b:=(h.fV b (λ⟨N,x⟩=>by simp at x) Υ).sk λ_=>rfl
theorem OT {w:World} (da:Fits H w) (dw:Fits E w) {b o:Nat} {u v:Value} {p q:Bool} (h:H.aO b o=some (u,p)) (k:E.aO b o=some (v,q)):u=v:=by
 have J:=da.aO b o u p h;rw[dw.aO b o v q k] at J;exact(Option.some.inj J).symm
theorem Zj {w:World} (da:Fits H w) (dw:Fits E w) (ib:Apart H E) {b N:Nat} {t:TypeId} (ι:E.row b=some (t,N)) (ω:∀o,o<N->∃v,E.aO b o=some (v,true)):(∀o,H.aO b o=none)/\kJ E (join H E) b:=by
 obtain⟨c,J,U⟩:=dw.row b t N ι;have Ζ:∀o,H.aO b o=none:=λo=>by
  cases γ:H.aO b o with
  | none=>rfl
  | some x=>
   have δ:=da.aO b o x.1 x.2 γ;by_cases aP:o<N
   ·exact absurd ⟨x,γ⟩ (ib.qH b o (ω o aP))
   ·simp only[World.cell?,J] at δ;simp[U,aP] at δ
 refine⟨Ζ,λo=>join_none (Ζ o),?_,?_⟩
 ·cases γ:H.row b with
  | none=>simp only[join,γ]
  | some x=>
   obtain⟨c',μ,Θ⟩:=da.row b x.1 x.2 γ;rw[J] at μ;cases μ;simp only[join,γ,ι];obtain⟨pN,ie⟩:=x
   simp_all
 ·cases γ:H.obj b with
  | none=>simp only[join,γ]
  | some x=>
   obtain⟨μ,Θ⟩:=da.obj b x γ;rw[J] at μ;cases μ;simp[Obj.rW] at Θ
theorem OU (Α:Holds S [] [] H) (dw:Holds hO B σ E) (ib:Apart H E) (hw:∃w,Fits H w/\Fits E w) (l7:∀r∈σ,yj r) :
  Holds (S.plus hO) B σ (join H E)/\b8 S (S.plus hO) [] B [] σ/\b8 hO (S.plus hO) B B σ σ:=by
 obtain⟨w,da,c0⟩:=hw;have st:∀b o v,hO b o=some v->S.plus hO b o=some v:=λb o v h=>by
  cases ν:S b o with
  | none=>rw[EM ν];exact h
  | some u=>
   obtain⟨p,ψ⟩:=Α.dt b o u ν;obtain⟨q,Φ⟩:=dw.dt b o v h;rw[AQ ν,OT da c0 ψ Φ]
 have l1:b8 S (S.plus hO) [] B [] σ:=⟨λb o v h=>AQ h,λid r h=>by simp at h⟩
 have l2:b8 hO (S.plus hO) B B σ σ:=⟨st,λid r h=>⟨r,h,r.tI _⟩⟩
 have mine:∀(id:Nat) (r:Row) (b N:Nat),σ[id]?=some r->B[id]?=some (some (b,N))->(∀o,H.aO b o=none)/\kJ E (join H E) b:=λid r b N ι hb=>by
  obtain⟨t,k,l,rfl⟩:=l7 r (cE ι);obtain⟨Δ,_,Γ,_⟩:=dw.row id _ _ ι hb;exact Zj da c0 ib Δ Γ
 refine⟨⟨λb o v h=>?_,dw.len,λid r bo ι e7=>?_,dw.inj,λid r b N ι fv e7 o=>?_⟩,l1,l2⟩
 ·cases ν:S b o with
  | some u=>
   rw[AQ ν] at h;cases h;obtain⟨p,ψ⟩:=Α.dt b o _ ν;exact⟨p,join_some ψ⟩
  | none=>
   rw[EM ν] at h;obtain⟨p,ψ⟩:=dw.dt b o v h;cases γ:H.aO b o with
   | none=>exact⟨p,by rw[join_none γ];exact ψ⟩
   | some x=>
    obtain⟨u,q⟩:=x;have:=OT da c0 γ ψ;subst this;exact⟨q,join_some γ⟩
 ·refine(dw.row id r bo ι e7).later l2 (λb N e=>(mine id r b N ι (by rw[e7,e])).2) λm left cur e=>?_;subst e;obtain⟨t,k,l,e⟩:=l7 _ (cE ι);cases e
 ·have J:=(mine id r b N ι e7).1 o;cases ν:S b o with
  | some u=>
   obtain⟨p,ψ⟩:=Α.dt b o u ν;rw[J] at ψ;cases ψ
  | none=>rw[EM ν];exact dw.sep id r b N ι fv e7 o
theorem II {o:Nat} {x:Value×Bool} (κ:G.aO β o=some x) {b:Nat} (Υ:G.fresh b):β<b:=by
 by_cases e:β<b
 ·exact e
 ·rcases Nat.lt_or_ge b β with h|h
  ·have:=(Υ.2.2.2 β h).1 o;rw[κ] at this;cases this
  ·obtain rfl:β=b:=by omega
   rw[Υ.1 o] at κ;cases κ
theorem IJ {b:Nat} (Υ:G.fresh β) (h:β<b):G.fresh b:=
 ⟨(Υ.2.2.2 b h).1,(Υ.2.2.2 b h).2.1,(Υ.2.2.2 b h).2.2,λΨ dT=>Υ.2.2.2 Ψ (Nat.lt_trans h dT)⟩
theorem Zk (fh:∀b o v,S b o=some v->bN b o≠none\/β<b):nR β bN (m8 S):=
 ⟨λb o x h=>let ⟨v,J,_⟩:=EL h;fh b o v J,λb x h=>(by cases h),λb x h=>(by cases h)⟩
theorem nR.join (h:nR β bN G) (k:nR β bN E):nR β bN (join G E):=by
 refine⟨λb o x γ=>?_,λb x γ=>(Zd γ).elim (h.row b x) (k.row b x),λb x γ=>(Ze γ).elim (h.obj b x) (k.obj b x)⟩;cases Ξ:G.aO b o with
 | none=>rw[join_none Ξ] at γ;exact k.aO b o x γ
 | some y=>exact h.aO b o y Ξ
theorem nR.ext (h:nR β bN G) {G':χ} (he:Ext S B G aE B' G') (dU:∀b,B.has b->β<b) {o:Nat} {x:Value×Bool} (κ:G.aO β o=some x):nR β bN G':=by
 have key:∀b,¬β<b->nv S G G' b:=λb hb=>he.fV b (λk=>hb (dU b k)) λk=>hb (II κ k);refine⟨λb o x γ=>?_,λb x γ=>?_,λb x γ=>?_⟩
 ·by_cases hb:β<b
  ·exact .inr hb
  ·rcases(key b hb).1 o with e|⟨v,p,_,e,_⟩
   ·rw[e] at γ;exact h.aO b o x γ
   ·exact h.aO b o _ e
 ·by_cases hb:β<b
  ·exact hb
  ·rw[(key b hb).2.1] at γ;exact h.row b x γ
 ·by_cases hb:β<b
  ·exact hb
  ·rw[(key b hb).2.2] at γ;exact h.obj b x γ
theorem OV {G':χ} (he:Ext S B G aE B' G') (dU:¬B.has β) (κ:∃o x,G.aO β o=some x):∃o x,G'.aO β o=some x:=by
 obtain⟨o,x,γ⟩:=κ;rcases(he.fV β dU (λΥ=>by rw[Υ.1 o] at γ;cases γ)).1 o with e|⟨v,p,_,_,e⟩
 ·exact⟨o,x,by rw[e];exact γ⟩
 ·exact⟨o,_,e⟩
theorem nR.blocks (h:nR β bN E) (dw:Holds hO B σ E) (l7:∀r∈σ,yj r) {b:Nat} (hb:B.has b):β<b:=by
 obtain⟨N,cm⟩:=hb;obtain⟨id,b9⟩:=List.getElem?_of_mem cm;have aP:id<σ.length:=by rw[<-dw.len];exact(cf.1 b9).1
 have ι:=bg aP;obtain⟨t,k,l,e⟩:=l7 _ (cE ι);rw[e] at ι;exact h.row b _ (dw.row id _ _ ι b9).1
theorem Zl (he:Ext fu [] ec S [] H) (fh:∀b o v,bN b o=some v->S b o=some v) (Υ:ec.fresh β) (hi:nR β bN E) (Α:Holds S [] [] H) (dw:Holds hO B σ E) (l7:∀r∈σ,yj r) :
  Ext fu [] ec (S.plus hO) B (join H E):=by
 have xK:∀b,¬aV.has ([]:aV) b:=λb ⟨N,h⟩=>by simp at h
 have old:∀b,¬ec.fresh b->¬β<b:=λb h k=>h (IJ Υ k)
 have same:∀b,¬β<b->∀o,(join H E).aO b o=H.aO b o:=λb hb o=>by
  cases γ:H.aO b o with
  | some x=>rw[join_some γ]
  | none=>
   rw[join_none γ];cases Ι:E.aO b o with
   | none=>rfl
   | some y=>
    rcases hi.aO b o y Ι with k|k
    ·cases ν:bN b o with
     | none=>exact absurd ν k
     | some v=>
      obtain⟨p,ψ⟩:=Α.dt b o v (fh b o v ν);rw[γ] at ψ;cases ψ
    ·exact absurd k hb
 refine⟨λb o v h=>AQ (he.dt b o v h),λb _ oU=>?_,λb hb=>.inr (IJ Υ (hi.blocks dw l7 hb)),λb o v h=>?_,λb h=>he.grow b ?_⟩
 ·have hb:=old b oU;obtain⟨k1,cN,rl⟩:=he.fV b (xK b) oU;refine⟨λo=>by rw[same b hb o];exact k1 o,?_,?_⟩
  ·cases γ:E.row b with
   | none=>rw[<-cN];simp only[join,γ];cases H.row b<;>rfl
   | some x=>exact absurd (hi.row b x γ) hb
  ·cases γ:E.obj b with
   | none=>rw[<-rl];simp only[join,γ];cases H.obj b<;>rfl
   | some x=>exact absurd (hi.obj b x γ) hb
 ·cases ν:S b o with
  | some u=>rw[AQ ν] at h;cases h;exact he.qZ b o _ ν
  | none=>
   rw[EM ν] at h;obtain⟨p,ψ⟩:=dw.dt b o v h;rcases hi.aO b o _ ψ with k|k
   ·cases rL:bN b o with
    | none=>exact absurd rL k
    | some u=>rw[fh b o u rL] at ν;cases ν
   ·exact .inr (.inr (IJ Υ k))
 ·have c:∀b o,(join H E).aO b o=none->H.aO b o=none:=λb o h=>by
   cases γ:H.aO b o with
   | none=>rfl
   | some x=>rw[join_some γ] at h;cases h
  have r:∀b,(join H E).row b=none->H.row b=none:=λb h=>by
   cases γ:H.row b with
   | none=>rfl
   | some x=>simp only[join,γ] at h;cases h
  have o:∀b,(join H E).obj b=none->H.obj b=none:=λb h=>by
   cases γ:H.obj b with
   | none=>rfl
   | some x=>simp only[join,γ] at h;cases h
  exact⟨λo'=>c b o' (h.1 o'),r b h.2.1,o b h.2.2.1,λΨ hb=>⟨λo'=>c Ψ o' ((h.2.2.2 Ψ hb).1 o'),r Ψ (h.2.2.2 Ψ hb).2.1,o Ψ (h.2.2.2 Ψ hb).2.2⟩⟩
end
end Go.TL
namespace Go.TL
open Go.Conc Go.Proofs
open Go.ConcN (sumTo upd sumTo_upd upd_ne upd_same sumTo_congr le_sumTo)
noncomputable def under (P:Program):Frame:={(default:Frame) with fn:=P.funcs.size,defers:=[],mode:=.panicking [goexitEntry]}
theorem Zm {P:Program} {g:FuncId} {cap:Array Value} (Ξ:Plain P g) (w:World):stepG P false (born P ⟨.fn (.func g) cap,#[]⟩) w=.go (Go.Conc.G (Frame.enter P g cap .deferred) [under P]) w #[]:=by
 obtain⟨fn,J,U,μ⟩:=Ξ;have hs:¬fn.name = "runtime.NumGoroutine" := by simpa using U
 have Zn:¬fn.body=none:=by intro e;rw[e] at μ;cases μ
 simp[born,stepG,unwind,callDeferred,invoke,callFunc,J,hs,Zn,seen,GStep.after,Go.Conc.G,under]
theorem Zo {P:Program} {b:Frame} {fn:Func} (bM:P.funcs[b.fn]?=some fn) (e6:fn.results=#[]) (eR:b.defers=[]) (hm:b.mode=.returning) (ς:b.kind=.deferred):ly P 0 (Go.Conc.G b [under P]):=by
 refine⟨2,QuitsD.ctl (g':=Go.Conc.G (under P) []) rfl (λw=>?_) ?_⟩
 ·simp[Go.Conc.G,stepG,unwind,hm,eR,bM,doReturn,results,e6,ς,under,seen,GStep.after,goexitEntry]
 ·refine QuitsD.ctl (g':={Go.Conc.G (under P) [] with status:=.finished}) rfl (λw=>?_) ⟨rfl,rfl⟩;simp[Go.Conc.G,stepG,unwind,under,goexitEntry,Frame.catches];rfl
def s0 (l:List θ):θ:=if l.isEmpty then .sl true 0 [] else .ms 1 l.length 0 l.length
def gQ (l:List θ):List Row:=.cells 99 1 [s0 l]::bG 110 3 l
theorem IK:s0 []=.sl true 0 []:=rfl
theorem EN {l:List θ} (h:l≠[]):s0 l=.ms 1 l.length 0 l.length:=by unfold s0;rw[if_neg (by simpa using h)]
theorem OW {l:List θ} {x:θ}:s0 (l++[x])=.ms 1 (l.length+1) 0 (l.length+1):=by rw[EN η];simp
theorem EO (l:List θ):∀r∈gQ l,yj r:=by
 intro r h;unfold gQ bG at h;rcases List.mem_cons.1 h with rfl|h
 ·exact⟨_,_,_,rfl⟩
 ·split at h
  ·cases h
  ·simp at h;subst h;exact⟨_,_,_,rfl⟩
def wy (β:Nat) (bN:aJ) (o:Nat) (fd:Nat->Option Found) (L:List Nat) (E:χ):Prop:=
 nR β bN E/\∃S B,Holds S B (gQ ((L.filterMap fd).map dj)) E/\B[0]?=some (some (o,1))
theorem Zp {S aE:aJ} {B B':aV} {l eg:List θ} {m:Nat} (h:b8 S aE (B.take m) B' ((gQ l).take m) (gQ eg)) (hm:0<m):B'[0]?=B[0]?:=by
 obtain⟨m,rfl⟩:∃k,m=k+1:=⟨m-1,R⟩;obtain⟨r',J,U⟩:=h.rows 0 (.cells 99 1 [s0 l]) (by simp[gQ]);have:r'=.cells 99 1 [s0 eg]:=by simpa[gQ] using J.symm
 subst this;rcases U with⟨l2,_,_,μ⟩|μ
 ·simpa[List.getElem?_take] using μ
 ·have:=μ 1 η;simp[Row.hh] at this
section
variable {β s m o k:Nat} {S bN:aJ} {fd:Nat->Option Found} {sp:Spec} {ej:aT} {a b:Int} {v1 v2 wz:Value} {f:Found} {n:Nat}
abbrev mg (s:Nat) (sp:Spec):aZ:=⟨χ.empty,λ_=>none,λ_=>.nil,upd (λ_=>none) s (some sp),λ_=>none,0,false⟩
abbrev EP (s m o:Nat) (v1 v2 wz:Value):Array Value:=#[ptr s 0,v1,v2,wz,ptr m 0,ptr o 0]
abbrev IL (s m o:Nat) (ej:aT) (a b:Int):List θ:=[.z (ptr s 0),.ao [a7 ej.au,bc ej.aI,ca ej.cells],.ao [I a],.ao [I b],.z (ptr m 0),.z (ptr o 0)]
theorem OX:(mg s sp).spec s=some sp:=upd_same (λ_=>(none:Option Spec)) s (some sp)
theorem OY (fz:sp.aW=some m) (gP:sp.top<7):jF (mg s sp) s m sp:=⟨rfl,rfl,OX,fz,gP,λ_ _=>trivial⟩
theorem Zq (gP:sp.top<7):OR (mg s sp) s sp:=⟨rfl,rfl,OX,gP,λ_ _=>trivial⟩
theorem Zr (fz:sp.aW=some m) (gP:sp.top<7) (et:sp.D k χ.empty) {Q:Value->Prop} {c:Frame} {H:χ} {v:Option (Nat×aS)} {d1:Deferred} (kv:vZ Tryz.prog d1 142 #[ptr s 0])
  (hm:c.mode=.returning) (eR:c.defers=[d1]) (ς:c.kind=.deferred) (bM:c.fn=141):cx Tryz.prog Q false (bx (mg s sp) s (.ch k .done .work) v 0) c [under Tryz.prog] H:=by
 letI:bn:=e1;have γ:Seq (one (bx (mg s sp) s (.ch k .done .work) v 0)):=Seq.uu trivial rfl rfl;refine aR.deferred (x:=one _) γ (by rw[hm];simp) eR kv.t1 kv.t2 kv.run (λy Ι=>?_) _ rfl;cases Ι;refine Zc (Zq gP) et hm ?_;exact Zo (fn:=Tryz.f141) (by rw[bM];exact Tryz.func141) rfl rfl hm ς
theorem Zs (fz:sp.aW=some m) (gP:sp.top<7) (cQ:sp.an=wy β bN o fd) (et:sp.D k χ.empty) {Q:Value->Prop} {c:Frame} {kQ:aJ} {kR:aV} {jC:χ} {L:List Nat} {v:Option (Nat×aS)} {d1 d2:Deferred}
  (kv:vZ Tryz.prog d1 142 #[ptr s 0]) (lz:vZ Tryz.prog d2 145 #[ptr m 0]) (hm:c.mode=.returning) (eR:c.defers=[d2,d1]) (ς:c.kind=.deferred) (bM:c.fn=141)
  (Α:Holds kQ kR (gQ (((L++[k]).filterMap fd).map dj)) jC) (dU:kR[0]?=some (some (o,1))) (hi:nR β bN jC) (κ:∃q x,jC.aO β q=some x) :
  cx Tryz.prog Q false (bx (mg s sp) s (.ch k (.dr L) .work) v 0) c [under Tryz.prog] jC:=by
 letI:bn:=e1;have γ:Seq (one (bx (mg s sp) s (.ch k (.dr L) .work) v 0)):=Seq.uu trivial rfl rfl;refine aR.deferred (x:=one _) γ (by rw[hm];simp) eR lz.t1 lz.t2 lz.run (λy Ι=>?_) _ rfl;cases Ι;refine YD (x:=mg s sp) (s:=s) (c:={c with defers:=[d1]}) (OY fz gP) Α hm λj2 j3 he k4=>⟨χ.empty,j3,⟨Sub.empty _,Sub.refl _,(Apart.tw _).symm⟩,?_,λv2 iP hZ _=>?_⟩
 ·rw[cQ];obtain⟨dy,p2,p3⟩:=Α.back he k4;obtain⟨q,x,Φ⟩:=κ;exact⟨hi.ext he (λb ⟨N,h⟩=>by simp at h) Φ,j2,kR,dy,dU⟩
 ·exact Zr fz gP et kv hm rfl ς bM
end
section
variable {β s m o k:Nat} {S bN:aJ} {fd:Nat->Option Found} {sp:Spec} {ej:aT} {a b:Int} {v1 v2 wz:Value} {f:Found} {n:Nat}
noncomputable abbrev Zt (vs:Array Value) (ds:List Deferred):Frame:={Frame.enter Tryz.prog 141 vs .deferred with defers:=ds}
noncomputable def ER:Code:=Tryz.f141.body.getD .skip
theorem Zu (fz:sp.aW=some m) (gP:sp.top<7) (cQ:sp.an=wy β bN o fd) (et:sp.D k χ.empty) (IM:∀c:bn,@az c Tryz.prog 78 [dj f,I (-1)] (I n)) (uE:fd k=if 0<n then some f else none) {Q:Value->Prop}
  {aE:aJ} {H' E:χ} {L:List Nat} (Α:Holds aE [] [] H') (dw:sp.an L E) (ib:Apart H' E) (hw:∃w,Fits H' w/\Fits E w) (hlen:((L.filterMap fd).map dj).length<=4294967295) (oV:nR β bN H') (Zv:∃q x,H'.aO β q=some x)
  {t:Array Value} (ν:du aE [] [] [(4,.z (ptr m 0)),(5,.z (ptr o 0)),(6,.ao (dj f).cells)] t) (cv:t.size=20) {vs:Array Value} {d1:Deferred} (kv:vZ Tryz.prog d1 142 #[ptr s 0]) {ops:Array Oper} :
  cx Tryz.prog Q false (bx (mg s sp) s (.ch k (.dr L) .work) none 0) (aA (Zt vs [d1]) t [.inRegion ops [],.code (dV [1,1,1] ER)]) [under Tryz.prog] (join H' E):=by
 letI:bn:=e1;have γ:Seq (one (bx (mg s sp) s (.ch k (.dr L) .work) none 0)):=Seq.uu trivial rfl rfl;rw[cQ] at dw;obtain⟨hi,hO,rO,wA,dU⟩:=dw;obtain⟨l,ο⟩:=aK ((L.filterMap fd).map dj);have jd:l.length<=4294967295:=ο▸hlen;rw[<-ο] at wA;obtain⟨IN,l1,l2⟩:=OU Α wA ib hw (EO l);have lq:∀b,rO.has b->β<b:=λb=>hi.blocks wA (EO l);have ES:∃q x,(join H' E).aO β q=some x:=let ⟨q,x,h⟩:=Zv;⟨q,x,join_some h⟩;have av:t.getD 5 undef=ptr o 0:=by
  have:=ν 5;generalize t.getD 5 undef=u at this;cases this;rfl
 have rL:du (aE.plus hO) rO (gQ l) [(4,.z (ptr m 0)),(5,.ar 0 1 0 0),(6,.ao (dj f).cells)] t:=λi=>by
  have aj:=(ν i).later l1;simp only[a9] at aj ⊢;by_cases cL:4=i
  ·simpa[cL] using aj
  by_cases fa:5=i
  ·subst fa;simp only[show ¬4=5 by decide,if_false,if_true];rw[av];have:=ay.ar (S:=aE.plus hO) (B:=rO) (σ:=gQ l) (id:=0) (n:=1) (i:=0) (j:=0) (k:=1) (t:=99) (l:=[s0 l]) (b:=o) (N:=1) (by simp[gQ]) rfl dU;simpa using this
  ·simpa[cL,fa] using aj
 have leave:∀(eg:List θ) (iP:aJ) (j4:aV) (hZ:χ) (c:Frame) (d2:Deferred),eg=((L++[k]).filterMap fd).map dj->e8 1 (aE.plus hO) rO (join H' E) (gQ l) iP j4 hZ (gQ eg)->Holds iP j4 (gQ eg) hZ->vZ Tryz.prog d2 145 #[ptr m 0]->
   c.mode=.returning->c.defers=[d2,d1]->c.kind=.deferred->c.fn=141->cx Tryz.prog Q false (bx (mg s sp) s (.ch k (.dr L) .work) none 0) c [under Tryz.prog] hZ:=λeg iP j4 hZ c d2 e bW IP lz c1 c2 c3 c4=>by
  subst e;obtain⟨q,x,Φ⟩:=ES;exact Zs fz gP cQ et kv lz c1 c2 c3 c4 IP (by rw[Zp bW.later R];exact dU) ((oV.join hi).ext bW.ext lq Φ) (OV bW.ext (λh=>Nat.lt_irrefl _ (lq β h)) ⟨q,x,Φ⟩)
 refine V.here (x:=one _) (m:=1) (nt:=20) (S:=aE.plus hO) (B:=rO) (σ:=gQ l) (env:=[(4,.z (ptr m 0)),(5,.ar 0 1 0 0),(6,.ao (dj f).cells)]) ?_ ⟨IN,rL,cv,by simp[gQ]⟩ _ rfl;refine V.fR γ rfl ?_;refine W.bJ ?_;simp only[ER,Tryz.f141,Option.getD_some,dV]
 repeat first|apply a3|apply wb|apply a4|apply wd
 refine W.cr (.stop ?_);refine V.defer γ rfl rfl rfl rfl rfl rfl rfl ⟨_,Tryz.func145,rfl,rfl⟩ λkQ kR jC t3 d2 IB hK e9 sP lz=>?_;obtain rfl:=m1 (l:=[ptr m 0]) sP;rintro y rfl;refine V.here (x:=one _) (m:=1) (nt:=20) ?_ e9 _ rfl;refine V.fR γ rfl ?_;refine W.bJ ?_;refine bl λΕ ζ=>?_;refine az.d (IM _) (bD ?_);apply ζ;by_cases Ζ:0<n
 ·refine ai (by simp[Ζ]) ?_;refine W.iu (A:=[19]) Ρ [] (gQ (l++[dj f])) (.stop ?_) (by
   by_cases Τ:l=[]
   ·subst Τ;(try simp);(repeat (rw[Ο];simp[gQ,IK,kx]));(try simp[gQ,IK,kx]);exact⟨rfl,rfl⟩
   ·(try simp);(repeat (rw[Ο];simp[gQ,EN Τ,eJ Τ,OW,sS]));(try simp[gQ,EN Τ,eJ Τ,OW,sS]);exact jd)
  intro iP j4 hZ t5 kC lA;refine aR.sf γ rfl rfl ?_;rintro y rfl;exact leave _ iP j4 hZ _ d2 (by rw[List.filterMap_append,List.map_append,<-ο];simp[uE,Ζ]) (hK.trans kC) lA.holds lz rfl rfl rfl rfl
 ·refine aa (by simp;omega) ?_
  repeat first|apply a3|apply wb|apply a4|apply wd
  refine W.stop ?_;intro iP j4 hZ t5 kC lA;refine aR.sf γ rfl rfl ?_;rintro y rfl;exact leave _ iP j4 hZ _ d2 (by rw[List.filterMap_append,List.map_append,<-ο];simp[uE,Ζ]) (hK.trans kC) lA.holds lz rfl rfl rfl rfl
theorem wB {S:aJ} {B:aV} {σ:List Row} {env env':Ω} {t:Array Value} (h:du S B σ env t) (ν:∀p∈env',a9 env p.1=p.2):du S B σ env' t:=by
 induction env' with
 | nil=>exact λi=>.cH _
 | cons p l Β=>
  intro i;simp only[a9];split
  ·rename_i e;have:=ν p η;rw[<-this,e];exact h i
  ·exact Β (λq Φ=>ν q (by simp[Φ])) i
theorem Zw (fz:sp.aW=some m) (gP:sp.top<7) (cQ:sp.an=wy β bN o fd) (et:sp.D k χ.empty) (Zx:∀c:bn,@az c Tryz.prog 143 [fD ej,aF (a,b)] (dj f))
  (IM:∀c:bn,@az c Tryz.prog 78 [dj f,I (-1)] (I n)) (uE:fd k=if 0<n then some f else none) (Zy:∀L:List Nat,L.Nodup->((L.filterMap fd).map dj).length<=4294967295)
  (κ:∃q v,S β q=some v) (fh:∀b q v,S b q=some v->bN b q≠none\/β<b) (IQ:fO S [] [] (IL s m o ej a b) (EP s m o v1 v2 wz)) {Q:Value->Prop} :
  Goes Tryz.prog Q false (born Tryz.prog ⟨.fn (.func 141) (EP s m o v1 v2 wz),#[]⟩) {bx (mg s sp) s (.ch k .idle .work) none 0 with G:=m8 S}:=by
 letI:bn:=e1;have uF:Seq (one (bx (mg s sp) s (.ch k .idle .work) none 0)):=Seq.uu trivial rfl rfl;refine Quiet.goes (.cons ⟨rfl,rfl⟩ (λw=>Zm ⟨_,Tryz.func141,rfl,rfl⟩ w) (.nil _)) (.inl rfl) ⟨rfl,rfl⟩ ?_;show cx Tryz.prog Q false (bx (mg s sp) s (.ch k .idle .work) none 0) (Frame.enter Tryz.prog 141 (EP s m o v1 v2 wz) .deferred) [under Tryz.prog] (m8 S);rw[qc (body:=ER) Tryz.func141 rfl];refine V.here (x:=one _) (m:=0) (nt:=20) (S:=S) (B:=[]) (σ:=[]) (env:=entry 0 (IL s m o ej a b)) ?_ (fN.enter Zh IQ (Nat.le_refl _) η) _ rfl;refine V.fR uF rfl ?_;simp only[ER,Tryz.f141,Option.getD_some]
 repeat first|apply a3|apply wb|apply a4|apply wd
 refine W.cr (.stop ?_);refine V.defer uF rfl rfl rfl rfl rfl rfl rfl ⟨_,Tryz.func142,rfl,rfl⟩ λkQ kR jC t3 d1 IB hK e9 sP kv=>?_;obtain rfl:=m1 (l:=[ptr s 0]) sP;obtain rfl:kR=[]:=dG.1 e9.holds.len;rintro y rfl;refine V.here (x:=one _) (m:=0) (nt:=20) ?_ e9 _ rfl;refine V.fR uF rfl ?_;refine W.bJ ?_;refine tW ?_;refine dM (A:=[6]) Ρ λΕ ζ=>bD ?_;refine az.d (Zx _) (bD ?_);apply ζ;refine W.fix (id:=0) (σ':=[]) (Nat.zero_le _) rfl η η rfl [(4,.z (ptr m 0)),(5,.z (ptr o 0)),(6,.ao (dj f).cells)] (by simp[entry]) ?_
 repeat first|apply a3|apply wb|apply a4|apply wd
 refine W.cr (.stop ?_);refine V.call uF ⟨rfl,rfl,by simp[Frame.enter],rfl⟩ rfl rfl rfl ⟨_,Tryz.func144,rfl,rfl⟩ λj2 o8 j3 t4 YB sO qe Is=>?_;obtain rfl:=m1 (l:=[ptr m 0]) Is;obtain rfl:o8=[]:=dG.1 qe.holds.len;rintro y rfl;refine Yu (OY fz gP) qe.holds λiP hZ L E OZ IP dw ib ⟨kL,K1,hw⟩=>?_;rw[iF rfl];have re:Ext S [] (m8 S) iP [] hZ:=hK.ext.trans (sO.ext.trans OZ);obtain⟨iE,u0,ET⟩:=κ;have lq:∀b,¬aV.has ([]:aV) b:=λb ⟨N,h⟩=>by simp at h
 exact Zu fz gP cQ et IM uE IP dw ib hw (Zy L kL) ((Zk fh).ext re (λb h=>absurd h (lq b)) (IH ET)) (OV re (lq β) ⟨iE,_,IH ET⟩)
  (by
   refine du.later (wB (qe.put (a:=.z (.tuple #[])) rfl (.z _)).cA (by simp[cj])) ⟨OZ.dt,λid r h=>by simp at h⟩) (qe.put (a:=.z (.tuple #[])) rfl (.z _)).size kv
end
end Go.TL
namespace Go.TL
open Go.Conc Go.Proofs
variable [bn]
noncomputable abbrev Zz (vs:Array Value):Frame:=Frame.enter Tryz.prog 126 vs .normal
abbrev rP (L:Nat):θ:=.fn (.yield L) [] []
structure ZA (Q:Value->Prop) (mn:Bool) (x:g1) (cs:List Frame) (uG:Frame) (o:Base) (L:Nat) (r:Loop) (n:Nat) (jG jH:Row) (Fnd:List (List Nat)->Prop):Prop where
 m:o.m=2
 cU:fg 2 jG
 bw:fg 2 jH
 c5:r.params.size=1
 round:∀(l:List Nat) (rem:List (List Nat)),Fnd (l::rem)->l.length<=n->(∀x∈l,x<n)->∀(S:aJ) (B:aV) (H:χ) (ws:Array Value) (c:Frame),e8 2 o.S o.B o.H o.σ S B H [jG,jH,fE l]->Holds S B [jG,jH,fE l] H->¬B.has L->H.obj L=some (.loop r)->fO S B [jG,jH,fE l] [.ms 2 l.length 0 l.length] ws->
  (Fnd rem->∀(aE:aJ) (B':aV) (H':χ),e8 2 o.S o.B o.H o.σ aE B' H' [jG,jH,fE l]->b8 S aE B B' [jG,jH,fE l] [jG,jH,fE l]->Holds aE B' [jG,jH,fE l] H'->¬B'.has L->H'.obj L=some (.loop r)->aR Tryz.prog Q mn x (c.finish (.bool true)) (uG::cs) H')->
  (∀H',(∀(c9:aJ) (bR:χ),Ext fj [] H' c9 [] bR->aR Tryz.prog Q mn x (uG.finish (.tuple #[])) cs bR)->aR Tryz.prog Q mn x (c.finish (.bool false)) (uG::cs) H')->
  aR Tryz.prog Q mn x (Frame.round L r.fn ((r.params.zip ws).foldl (λtmps (t,a)=>tmps.setIfInBounds t a) r.tmps) r.assign r.body .normal) (c::uG::cs) H
 done:Fnd []->∀(S:aJ) (B:aV) (H:χ),e8 2 o.S o.B o.H o.σ S B H [jG,jH]->Holds S B [jG,jH] H->¬B.has L->H.obj L=some (.loop r)->aR Tryz.prog Q mn x (uG.finish (.tuple #[])) cs H
def rQ (c i:Nat):List Int:=(List.range i).map (λj:Nat=>(j:Int))++List.replicate (c-i) 0
theorem ZB {c i:Nat} (h:i<c):(rQ c i).set i (i:Int)=rQ c (i+1):=by
 unfold rQ;have Δ:((List.range i).map λj:Nat=>(j:Int)).length=i:=η;have Γ:c-i=(c-(i+1))+1:=R;rw[List.set_append_right _ _ R,Δ,Nat.sub_self,Γ,List.replicate_succ,List.set_cons_zero,List.range_succ,List.map_append];simp
theorem ZC {c i:Nat} (h:i<=c):(rQ c i).length=c:=by simp[rQ];omega
theorem ZD (c:Nat):(rQ c c).map I=(List.range c).map λn:Nat=>I n:=by simp[rQ]
section
variable {Q:Value->Prop} {mn:Bool} {x:g1} {cs:List Frame} {uG:Frame} {o:Base} {L:Nat} {r:Loop} {n:Nat} {jG jH:Row} {Fnd:List (List Nat)->Prop} {vs:Array Value}
theorem ZE (γ:Seq x) (Ζ:n<=10) (hC:ZA Q mn x cs uG o L r n jG jH Fnd) (aj:Fnd (kV n 0)) :
  sW Tryz.prog Q mn x (Zz vs) (uG::cs) 72 o L r [.code (Tryz.f126.body.getD .skip)] (entry 0 [rP L,.ao [I n]]) [jG,jH]:=by
 have hm:=hC.m;refine sW.fR γ rfl ?_;simp only[Tryz.f126,Option.getD_some];have Ao:=fC (show n<11 by omega) R;refine aB Ao ?_;refine W.iter (λc:Nat=>c<=n+1/\Fnd (kV n c)) (λc=>[(0,rP L),(1,.ao [I n]),(9,I ((n:Int)+1)),(10,I c)]) (λ_=>[jG,jH]) (λc=>n+1-c) 0 ⟨Nat.zero_le _,aj⟩ rfl (by simp[entry,Ao]) (λc δ Β=>?_);obtain⟨kK,c0⟩:=δ;refine Η ?_;by_cases jU:c<n+1
 ·refine ai (by simp;omega) ?_;refine Η ?_;have ic:(0:Int)<=c:=R;have ZF:(8:Int)*c<=281474976710656:=R;refine dM (A:=[14]) Ρ λΕ ζ=>bD ?_;simp[ZF];(repeat (rw[Ο];simp[]));apply ζ;refine Η ?_;refine W.iter (λi:Nat=>i<=c) (λi=>[(0,rP L),(1,.ao [I n]),(9,I ((n:Int)+1)),(10,I c),(3,I c),(4,.ms 2 c 0 c),(16,I c),(17,I i)]) (λi=>[jG,jH,.cells 3 1 ((rQ c i).map I)]) (λi=>c-i) 0 (Nat.zero_le _) (by simp[rQ]) η (λi hi gd=>?_);refine Η ?_;by_cases yk:i<c
  ·refine ai (by simp[yk]) ?_;have mO:=fC yk (show c<2 ^ 62 by omega);have C4:=ZC (Nat.le_of_lt yk);have pW:=ZB yk;obtain⟨G,da⟩:=aK (rQ c i);rw[<-da] at C4 pW ⊢;have ZG:i<G.length:=R;refine aB (υ C4 (υ yk (υ ZG mO))) ?_;refine W.to (gd (i+1) yk R) ?_ ?_
   ·rw[<-pW];simp
   ·simp[mO]
  ·have eH:i=c:=by omega
   subst eH;refine aa η ?_;refine W.exit rfl ?_;rw[ZD]
   repeat apply ad
   refine W.iter (λx:Nat×List Nat=>qt n x.1 x.2=true/\x.2.length=i/\Fnd (ov n x.1 x.2++kV n (i+1))) (λ_=>[(0,rP L),(1,.ao [I n]),(9,I ((n:Int)+1)),(10,I i),(3,I i),(4,.ms 2 i 0 i)]) (λx=>[jG,jH,fE x.2]) (λx=>x.1) (300,List.range i)
    ⟨XQ n R i jU,η,by rw[<-XR jU];exact c0⟩ rfl η (λx γ ry=>?_)
   obtain⟨g,l⟩:=x;obtain⟨dY,jd,IS⟩:=γ;simp only at dY jd IS ⊢
   repeat apply ad
   refine W.cr ?_;refine fw [0,1] [2,3] ?_;refine W.stop ?_;obtain⟨rem,ZH,O0⟩:∃rem,ov n g l++kV n (i+1)=l::rem/\((qs n l=none/\rem=kV n (i+1))\/∃dx ak,qs n l=some dx/\g=ak+1/\rem=ov n ak dx++kV n (i+1)/\qt n ak dx=true):=by
    cases uH:qs n l with
    | none=>exact⟨kV n (i+1),by rw[XU uH];rfl,.inl ⟨rfl,rfl⟩⟩
    | some dx=>
     obtain⟨ak,Δ,Γ,a2⟩:=XV dY uH;exact⟨ov n ak dx++kV n (i+1),by rw[Γ];rfl,.inr ⟨dx,ak,rfl,Δ,rfl,a2⟩⟩
   rw[ZH] at IS;have aP:=XT dY;refine sW.yield γ ⟨rfl,rfl,by simp[Frame.enter],rfl⟩ rfl rfl rfl hC.c5.symm λS B H t ws κ ψ lq ab hv=>?_;refine hC.round l rem IS R aP S B H ws _ (by rw[<-hm];exact κ) ψ.holds lq ab (by rw[jd];exact hv) (λIT aE B' H' ee DS jA ZI wc=>?_) (λH' ν=>?_)
   ·rw[iF rfl];have AR:du aE B' [jG,jH,fE l] [(27,.z (.bool true)),(0,rP L),(1,.ao [I n]),(9,I ((n:Int)+1)),(10,I i),(3,I i),(4,.ms 2 i 0 i)] (t.setIfInBounds 27 (.bool true)):=wB (du.put (ψ.cA.later DS) (d:=27) (by rw[ψ.size];omega) (.z _)) η;refine(sW.fR (env:=[(27,.z (.bool true)),(0,rP L),(1,.ao [I n]),(9,I ((n:Int)+1)),(10,I i),(3,I i),(4,.ms 2 i 0 i)]) (σ:=[jG,jH,fE l]) (o:=o) (L:=L) (r:=r) (nt:=72) γ rfl ?_) aE B' H' _ (by rw[hm];exact ee) ⟨jA,AR,Eq.trans (Array.size_setIfInBounds ..) ψ.size,by rw[hm];simp⟩ ZI wc;refine fw [3] [] ?_;refine W.bJ ?_;refine aa rfl ?_;have h2:IntKind.i64.wrap ((i:Int)-1)=(i:Int)-1:=IntWalk.i64_in _ R;refine aB h2 ?_;refine W.iter (λe:Nat=>e<=i/\qq n l i=qq n l e) (λe=>[(0,rP L),(1,.ao [I n]),(9,I ((n:Int)+1)),(10,I i),(3,I i),(4,.ms 2 i 0 i),(6,I ((e:Int)-1))]) (λ_=>[jG,jH,fE l]) (λe=>e) i ⟨Nat.le_refl _,rfl⟩ rfl (by simp[h2]) (λe he zn=>?_);obtain⟨iΡ,O1⟩:=he
    repeat apply ad
    have rB:=fC jU (show n+1<2 ^ 62 by omega)
    have sI:qs n l=(qq n l e).map λq=>m2 l q (l.length-q):=by unfold qs;rw[jd,O1]
    cases e with
    | zero=>
     have Gp:rem=kV n (i+1):=by
      rcases O0 with⟨_,h⟩|⟨dx,ak,h,_⟩
      ·exact h
      ·rw[sI] at h;simp[qq] at h
     rw[Gp] at IT;refine tX ?_;refine aa rfl ?_;refine W.exit rfl ?_;refine Η ?_;refine ai rfl ?_;refine W.exit rfl ?_;refine W.drop (h:=2) (σ':=[jG,jH]) (by rw[hm];exact Nat.le_refl _) η (λid q b9 Φ=>by
      match id,b9,Φ with
      | 0,_,Φ=>simp at Φ;subst Φ;exact hC.cU
      | 1,_,Φ=>simp at Φ;subst Φ;exact hC.bw) rfl [(0,rP L),(1,.ao [I n]),(9,I ((n:Int)+1)),(10,I i)] (by simp[l6]) ?_
     refine aB rB ?_;refine W.to (Β (i+1) ⟨jU,IT⟩ R) rfl ?_;simp[rB]
    | succ e=>
     have nx:e<l.length:=R
     have hle:=aP _ (List.getElem_mem nx)
     have EU:l.getD e 0=l[e]:=by simp[List.getD_eq_getElem?_getD,nx]
     have g0:IntKind.i64.wrap ((n:Int)-i)=(n:Int)-i:=IntWalk.i64_in _ R
     have gF:IntKind.i64.wrap ((n:Int)-i+e)=(n:Int)-i+e:=IntWalk.i64_in _ R
     have jl:IntKind.i64.wrap ((e:Int)-1)=(e:Int)-1:=IntWalk.i64_in _ R
     have O2:e<i:=R
     have rL:((e+1:Nat):Int)-1=e:=R;rw[rL];refine dF (υ nx (υ O2 (υ jd (υ g0 gF)))) ?_;by_cases Φ:l[e]+i=n+e
     ·have EV:qq n l (e+1)=qq n l e:=by rw[qq,if_pos (by rw[EU,jd];exact Φ)]
      refine ai (by simp;omega) ?_;refine aB jl ?_;refine W.to (zn e ⟨R,by rw[O1,EV]⟩ R) rfl ?_;simp[jl]
     ·have EV:qq n l (e+1)=some e:=by rw[qq,if_neg (by rw[EU,jd];exact Φ)]
      refine aa (by simp;omega) ?_;refine W.exit rfl ?_;refine Η ?_;refine aa η ?_;obtain⟨dx,ak,hn,iΤ,ZJ,ZK⟩:∃dx ak,qs n l=some dx/\g=ak+1/\rem=ov n ak dx++kV n (i+1)/\qt n ak dx=true:=by
       rcases O0 with⟨h,_⟩|h
       ·rw[sI,EV] at h;cases h
       ·exact h
      have iR:dx=m2 l e (i-e):=by
       rw[sI,EV] at hn;simp at hn;rw[<-hn,jd]
      have ZL:IntKind.i64.wrap ((l[e]:Int)+1)=(l[e]:Int)+1:=IntWalk.i64_in _ R
      have O3:IntKind.i64.wrap ((e:Int)+1)=(e:Int)+1:=IntWalk.i64_in _ R;refine aB (υ nx (υ O2 (υ jd (υ ZL O3)))) ?_;refine W.iter (λp:Nat=>e+1<=p/\p<=i) (λp=>[(0,rP L),(1,.ao [I n]),(9,I ((n:Int)+1)),(10,I i),(3,I i),(4,.ms 2 i 0 i),(7,I p)]) (λp=>[jG,jH,fE (m2 l e (p-e))]) (λp=>i-p) (e+1) ⟨Nat.le_refl _,R⟩ (by
       have:e+1-e=1:=R;rw[this,XW nx];simp) (by simp[O3]) (λp ψ aL=>?_)
      obtain⟨mT,mU⟩:=ψ;refine Η ?_;by_cases O4:p<i
      ·refine ai (by simp[O4]) ?_;obtain⟨q,iΥ⟩:=aK (p-1);obtain⟨al,aN⟩:=aK (m2 l e (p-e));have xX:al.length=i:=by rw[aN,N8 R,jd]
       have O5:q<al.length:=R
       have ZM:p<al.length:=R
       have ZN:q<i:=R
       have EW:al[q]=l[e]+(p-e):=by
        have:=XX (l:=l) (i:=e) (k:=p-e) R R
        have Δ:e+(p-e)-1=q:=R;rw[Δ,<-aN,EU] at this;simpa[List.getD_eq_getElem?_getD,O5] using this
       have tP:al.set p (al[q]+1)=m2 l e (p+1-e):=by
        have:=XY (l:=l) (i:=e) (k:=p-e) R
        have Δ:e+(p-e)=p:=R
        have Γ:p-e+1=p+1-e:=R;rw[Δ,Γ,<-aN,EU,<-EW] at this;exact this
       have yl:al[q]<100:=R
       have ZO:IntKind.i64.wrap ((p:Int)-1)=(q:Int):=by rw[IntWalk.i64_in _ R];omega
       have ZP:IntKind.i64.wrap ((al[q]:Int)+1)=(al[q]:Int)+1:=IntWalk.i64_in _ R
       have O6:IntKind.i64.wrap ((p:Int)+1)=(p:Int)+1:=IntWalk.i64_in _ R;rw[<-aN];refine aB (υ ZO (υ O5 (υ ZM (υ ZN (υ O4 (υ xX (υ ZP O6))))))) ?_;refine W.to (aL (p+1) ⟨R,R⟩ R) ?_ ?_
       ·rw[<-tP];simp
       ·simp[O6]
      ·have ZQ:p=i:=by omega
       subst ZQ;refine aa η ?_;refine W.exit rfl ?_
       repeat apply ad
       refine W.to (ry (ak,dx) ⟨ZK,by rw[iR,N8 R,jd],by rw[<-ZJ];exact IT⟩ (by show ak<g;omega)) (by rw[iR]) ?_;simp
   ·rw[iF rfl];have AR:du fj [] [] [(27,.z (.bool false))] (t.setIfInBounds 27 (.bool false)):=λj=>by
     simp only[a9];split
     ·rename_i e;subst e;have:(t.setIfInBounds 27 (Value.bool false)).getD 27 undef=.bool false:=by
       have ZR:27<t.size:=by rw[ψ.size];omega
       simp[Array.getD_eq_getD_getElem?,ZR]
      rw[this];exact .z _
     ·exact .cH _
    refine V.here (m:=0) (nt:=72) (S:=fj) (B:=[]) (σ:=[]) (env:=[(27,.z (.bool false))]) ?_ ⟨yd H',AR,Eq.trans (Array.size_setIfInBounds ..) ψ.size,Nat.zero_le _⟩;refine V.fR γ rfl ?_;refine fw [3] [] ?_;refine W.bJ ?_;refine ai rfl ?_;refine W.stop ?_;refine V.Ia γ rfl rfl rfl rfl Tryz.func126 rfl λbN bT H1 qf jW=>?_;obtain rfl:bT=[]:=dG.1 jW.len;exact ν bN H1 qf.ext
 ·have H2:c=n+1:=by omega
  subst H2;refine aa η ?_;refine W.exit rfl ?_;refine W.stop ?_;intro S B H t κ ψ lq ab;rw[XS] at c0;refine aR.sf γ rfl rfl (aR.back γ rfl rfl (.inl rfl) Tryz.func126 ?_);rw[results_none rfl];rw[hm] at κ;exact π.pure' (hC.done c0 S B H κ ψ.holds lq ab)
end
theorem ZS (n:Nat):az Tryz.prog 83 [I n] (.fn (.func 126) [] [.ao [I n]]):=by
 refine ae.body Ρ Tryz.func83 rfl rfl Tryz.ntmps83 rfl rfl η ?_;refine Η ?_;refine W.rt ?_;exact .refl _
theorem Ext.O7 {S:aJ} {B:aV} {H:χ} {r:Nat} {y:Obj} (Υ:H.fresh r):Ext S B H S B (H.bL r y):=
 ⟨λ_ _ _ h=>h,λb _ hb=>by
  have:b≠r:=λe=>hb (e▸Υ);exact nv.of ⟨λ_=>rfl,rfl,by simp[χ.bL,this]⟩,λb h=>.inl h,λb o v h=>.inl h,χ.Gv⟩
theorem Holds.O8 {S:aJ} {B:aV} {σ:List Row} {H:χ} (Α:Holds S B σ H) (l7:∀r∈σ,yj r) {b:Nat} (Υ:H.fresh b):¬B.has b:=λ⟨N,cm⟩=>by
 obtain⟨id,b9⟩:=List.getElem?_of_mem cm;have aP:id<σ.length:=by rw[<-Α.len];exact(cf.1 b9).1
 have ι:=bg aP;obtain⟨t,k,l,e⟩:=l7 _ (cE ι);rw[e] at ι;exact Α.n8 ι trivial b9 Υ
def uI (s:aT) (F:List Found) (cell:Int) (lower:Bool):List Int×Int:=
 if(jD s cell F).2.2≠0 then([],(jD s cell F).2.2)
 else match (kV s.aI.length 0).find? (rC s F cell.toNat lower) with
 | some l=>(l.map λn:Nat=>(n:Int),0)
 | none=>([],11)
abbrev oy:Row:=.cells 29 1 [.sl true 0 []]
abbrev oz:Row:=.cells 38 1 [I 0]
abbrev ym (s:aT) (F:List Found) (cell:Int) (lower:Bool):Ω:=[(3,.ao [a7 s.au,bc s.aI,ca s.cells]),(4,.ao [I cell]),(5,.ao [a6 lower]),(6,.ar 0 1 0 0),(7,.ar 1 1 0 0),(8,.ao [a7 s.au,bc s.aI,ca s.cells]),(9,.ao [cZ F])]
section
variable {Q:Value->Prop} {mn:Bool} {x:g1} {c:Frame} {rest:List Frame} {fu S:aJ} {B:aV} {ec H:χ} {σ:List Row} {res:List Int×Int} {l:List Int} {fB:Int} {e:Bool} {kk:Nat} {b:Frame} {t:Array Value} {k:List Item} {env:Ω}
theorem O9 (γ:Seq x) (l5:vK Tryz.prog Q mn x c rest fu [] ec [] (λa s=>dP a (.bj [bO I 1 res.1,I res.2])/\s=[]) (λ_ _=>False)) (bM:b.fn=28) (gY:b.kind=.normal) (eR:b.defers=[]) (ZT:b.mode=.returning)
  (he:Ext fu [] ec S B H) (Α:Holds S B σ H) (ν:du S B σ env b.tmps) (ba:a9 env 6=.ar 0 1 0 0) (gZ:a9 env 7=.ar 1 1 0 0) (ZU:σ[0]?=some (.cells 29 1 [.sl e kk (l.map I)])) (ZV:σ[1]?=some (.cells 38 1 [I fB])) (e6:res=(l,fB)) (ς:l≠[]->kk=1):aR Tryz.prog Q mn x b (c::rest) H:=by
 subst e6;refine aR.back γ ZT eR (.inl gY) (fn:=Tryz.f28) (by rw[bM];exact Tryz.func28) ?_;refine π.mono (λv hZ ⟨iP,j4,fa,u2,av,yV⟩=>?_) (λ_ _ h=>h) _ (Du Ρ (a:=.bj [.sl e kk (l.map I),I fB]) (show p6 bk [.cell 6 29,.cell 7 38] env σ=some (.bj [.sl e kk (l.map I),I fB]) by simp[p6,sB,xJ,ba,gZ,ZU,ZV,vM,iH.agg,Dt]) Α ν);obtain⟨J,U⟩:=av.close (h:=0) (λid r b9=>R);simp only[List.take_zero] at J U;have ι:ay (iP.close j4 σ hZ 0) [] [] (.bj [.sl e kk (l.map I),I fB]) v:=by
  have hb:aG 0 (.bj [.sl e kk (l.map I),I fB]):=η
  have:=(yV.later (b8.refl iP j4 σ)).any hb [] [];exact this.later ⟨λb o v hv=>U.dt _ _ _ hv,λid r h=>by simp at h⟩
 have Pa:=he.trans (fa.trans U);refine l5.ret _ [] _ [] hZ v ⟨?_,rfl⟩ Pa ⟨Pa.dt,λid r h=>by simp at h⟩ J ι;refine .bj (.cons ?_ (.cons (.refl _) .nil));by_cases ο:l=[]
 ·subst ο;exact .nil
 ·rw[ς ο];exact .ex
end
noncomputable abbrev IU (vs:Array Value):Frame:=Frame.enter Tryz.prog 28 vs .normal
theorem Pb {s:aT} {F:List Found} {cell:Int} (h:(jD s cell F).2.2=0):0<=cell/\cell<s.cells.length/\jD s cell F=(s,F,0):=by
 unfold jD at h ⊢;split at h
 ·rename_i J;simp at h;exact absurd h J
 ·split at h
  ·simp at h
  ·rename_i J U;rw[if_neg J,if_neg U];refine⟨R,R,?_⟩;unfold eZ at h ⊢;rw[if_neg J] at h ⊢;split at h
   ·simp at h
   ·rename_i μ;rw[if_neg μ]
section
variable {Q:Value->Prop} {mn:Bool} {c:Frame} {rest:List Frame}
theorem ZW (s:aT) (ν:s.small) (F:List Found) (c0:qi s F) (cm:Eg s F) (cell:Int) (lower:Bool) (EX:s.aI.length<=4) :
  az Tryz.prog 28 [fD s,I cell,a6 lower] (.bj [bO I 1 (uI s F cell lower).1,I (uI s F cell lower).2]):=by
 refine⟨⟨_,Tryz.func28,rfl,rfl⟩,λQ mn x c rest fu eG ec vs γ se IV l5=>?_⟩;obtain rfl:eG=[]:=dG.1 se.len;rw[qc (body:=Tryz.f28.body.getD .skip) Tryz.func28 rfl];refine V.here (x:=x) (m:=0) (nt:=35) (S:=fu) (B:=[]) (H:=ec) (σ:=[]) (env:=entry 0 [fD s,I cell,a6 lower]) ?_ (fN.enter se IV (Nat.le_refl _) η);refine V.fR γ rfl ?_;simp only[Tryz.f28,Option.getD_some]
 repeat apply ad
 refine dM (A:=[6,7]) Ρ λΕ ζ=>bD ?_;apply ζ;refine tW ?_;refine dM (A:=[8,9]) Ρ λΕ ζ=>bD ?_;refine az.d (Ns s ν cell F c0) (bD ?_);apply ζ;by_cases b:(jD s cell F).2.2=0
 case neg=>
  have e:uI s F cell lower=([],(jD s cell F).2.2):=by unfold uI;rw[if_pos b]
  rw[e] at l5;generalize (jD s cell F).2.2=fB at b l5 ⊢;refine Η ?_;refine ai (by simp[b]) ?_;refine Η ?_;refine W.stop ?_;intro iP j4 hZ t5 kC lA;refine aR.ret γ rfl rfl ?_;exact O9 γ l5 rfl rfl rfl rfl kC.ext lA.holds lA.cA rfl rfl rfl rfl rfl (λh=>absurd rfl h)
 obtain⟨ic,kK,e⟩:=Pb b;obtain⟨n,rfl⟩:∃n:Nat,cell=n:=⟨cell.toNat,R⟩;have cw:n<s.cells.length:=R;have Γ:uI s F n lower=match (kV s.aI.length 0).find? (rC s F n lower) with|some l=>(l.map λn:Nat=>(n:Int),0)|none=>([],11):=by
  unfold uI;rw[if_neg (by simpa using b)];rfl
 rw[e];refine W.fix (id:=3) (σ':=[oy,oz,.cells 98 3 [fD s]]) (Nat.zero_le _) rfl η (λid q b9 Φ=>by
  match id,b9,Φ with
  | 0,_,Φ=>simp at Φ;subst Φ;simp[fg,θ.cells]
  | 1,_,Φ=>simp at Φ;subst Φ;simp[fg,θ.cells]
  | 2,_,Φ=>simp at Φ;subst Φ;simp[fg,θ.cells]) rfl [(3,.ao [a7 s.au,bc s.aI,ca s.cells]),(4,.ao [I n]),(5,.ao [a6 lower]),(6,.ar 0 1 0 0),(7,.ar 1 1 0 0),(8,.ar 2 1 0 0),(9,.ao [cZ F]),(10,I 0)] (by simp[lg]) ?_
 refine W.fix (id:=2) (σ':=[oy,oz]) (Nat.zero_le _) rfl η (λid q b9 Φ=>by
  match id,b9,Φ with
  | 0,_,Φ=>simp at Φ;subst Φ;simp[fg,θ.cells]
  | 1,_,Φ=>simp at Φ;subst Φ;simp[fg,θ.cells]) rfl ((10,I 0)::ym s F n lower) (by simp[lg]) ?_
 refine Η ?_;refine aa rfl ?_;refine Η ?_;refine bl λΕ ζ=>?_;refine az.d (ZS s.aI.length) (bD ?_);apply ζ
 repeat apply ad
 refine W.forget ((25,.fn (.func 126) [] [.ao [I s.aI.length]])::ym s F n lower) η ?_;refine W.stop ?_;intro bN bT H1 t1 qf mT;have x3:∀r∈[oy,oz],yj r:=λr ι=>by
  simp only[List.mem_cons,List.not_mem_nil,or_false] at ι;rcases ι with rfl|rfl<;>exact⟨_,_,_,rfl⟩
 have b1:=mT.cA 25;simp only[a9,if_true] at b1;obtain⟨ax,AS⟩:=aK (t1.getD 25 undef);rw[<-AS] at b1;cases b1 with
 | fn w1 mZ Χ ak aY cy=>
 have ZX:w1=#[]:=Array.eq_empty_of_size_eq_zero (by rw[<-Χ];rfl);subst ZX;refine aR.rangeFunc γ rfl rfl (fo:=.tmp 25) AS.symm ⟨_,Tryz.func126,rfl,rfl⟩ λr1 L J U=>?_;have IW:¬bT.has r1:=mT.holds.O8 x3 J;have EY:=mT.holds.bL (y:=.deferred (some [])) IW;have EZ:Ext bN bT H1 bN bT (H1.bL r1 (.deferred (some []))):=Ext.O7 J;have AT:(H1.bL r1 (.deferred (some []))).obj r1=some (.deferred (some [])):=by simp[χ.bL]
 have ZY:ec.fresh r1:=qf.ext.grow _ J
 have E0:ec.fresh L:=qf.ext.grow _ (EZ.grow _ U);generalize iΦ:H1.bL r1 (.deferred (some []))=Pd at U EY EZ AT;have E1:r1≠L:=λe=>by rw[e,U.2.2.1] at AT;cases AT
 have Pe:¬bT.has L:=EY.O8 x3 U
 have Pf:∀(S:aJ) (B:aV) (H:χ) (σ:List Row),e8 2 bN bT Pd [oy,oz] S B H σ->b8 bN S bT B [oy,oz] σ:=λS B H σ κ=>κ.all EY η
 have Pg:∀(uJ:Frame) (S:aJ) (B:aV) (H:χ) (σ:List Row) (env:Ω) (l:List Int) (fB:Int) (e:Bool) (kk:Nat),uJ.fn=28->uJ.kind=.normal->uJ.mode=.returning->uJ.defers=[⟨.collected r1,#[]⟩]->Ext fu [] ec S B H->Holds S B σ H->¬B.has r1->H.obj r1=some (.deferred (some []))->
   du S B σ env uJ.tmps->a9 env 6=.ar 0 1 0 0->a9 env 7=.ar 1 1 0 0->σ[0]?=some (.cells 29 1 [.sl e kk (l.map I)])->σ[1]?=some (.cells 38 1 [I fB])->uI s F n lower=(l,fB)->(l≠[]->kk=1)->aR Tryz.prog Q mn x uJ (c::rest) H:=
  λuJ S B H σ env l fB e kk dK dq ga tQ tR ZZ Z0 uz Z1 Z2 Z3 Z4 Z5 Z6 Z7=>by
  refine aR.collected γ ga tQ uz ?_;exact O9 γ l5 (b:={uJ with defers:=[]}) dK dq rfl ga (tR.bL ZY ⟨_,uz⟩) (ZZ.bL Z0) Z1 Z2 Z3 Z4 Z5 Z6 Z7
 rw[qc (body:=Tryz.f126.body.getD .skip) Tryz.func126 rfl];have IX:fO bN bT [oy,oz] ([rP L]++[.ao [I s.aI.length]]) (#[.func (.yield L) #[] #[]]++mZ):=by
  refine fO.append ⟨rfl,λi a v dK dq=>?_⟩ ⟨ak,cy⟩
  match i with
  | 0=>simp at dK dq;subst dK;subst dq;exact .fn #[] #[] rfl rfl (λi a v hi=>by simp at hi) (λi a v hi=>by simp at hi)
  | i+1=>simp at dK
 refine ZE (o:=⟨bN,bT,Pd,[oy,oz],2⟩) (L:=L) (Fnd:=λrem=>(kV s.aI.length 0).find? (rC s F n lower)=rem.find? (rC s F n lower)) γ (Nat.le_trans EX bu) ?_ rfl bN bT _ _ (e8.of (Ext.O7 U) (b8.refl ..)) (fN.enter (EY.bL Pe) IX (Nat.le_refl _) η) Pe (by simp[χ.bL];rfl);refine⟨rfl,by simp[fg,θ.cells],by simp[fg,θ.cells],rfl,λl rem E2 Z8 aP S B H ws iΧ κ Α lq ab hv Z9 Z'=>?_,λE2 S B H κ Α lq ab=>?_⟩
 ·obtain⟨IY,xh⟩:=qp κ.ext IW AT;have aα:=Pf _ _ _ _ κ;have ru:=mT.cA.later aα;have AU:Ext fu [] ec S B H:=qf.ext.trans (EZ.trans κ.ext);obtain⟨w0,rfl⟩:∃w0,ws=#[w0]:=by
   have J:=hv.1;clear hv;obtain⟨wl⟩:=ws
   match wl,J with
   | [w0],_=>exact⟨w0,rfl⟩
  have aβ:((#[26]:Array Tmp).zip #[w0]).foldl (λtmps (t,a)=>tmps.setIfInBounds t a) t1=t1.setIfInBounds 26 w0:=η;change aR Tryz.prog Q mn x (Frame.round L 28 (((#[26]:Array Tmp).zip #[w0]).foldl (λtmps (t,a)=>tmps.setIfInBounds t a) t1) _ _ .normal) _ _;rw[aβ];have Ez:ay S B [oy,oz,fE l] (.ms 2 l.length 0 l.length) w0:=hv.2 0 _ _ rfl rfl;have aγ:l.length<2 ^ 30:=R;have AR:du S B [oy,oz,fE l] ((26,.ms 2 l.length 0 l.length)::ym s F n lower) (t1.setIfInBounds 26 w0):=wB (du.put ru (d:=26) (by rw[mT.size];omega) Ez) η;refine V.here (b:=Frame.round L 28 t1 .skip .skip .normal) (t:=t1.setIfInBounds 26 w0) (m:=3) (nt:=35) (S:=S) (B:=B) (H:=H) (σ:=[oy,oz,fE l]) (env:=(26,.ms 2 l.length 0 l.length)::ym s F n lower) ?_ ⟨Α,AR,Eq.trans (Array.size_setIfInBounds ..) mT.size,Nat.le_refl _⟩;refine V.fR γ rfl ?_;refine Η ?_;refine W.stop ?_;intro kQ kR jC t3 hK e9;obtain⟨AV,AW⟩:=qp hK.ext lq ab;obtain⟨aδ,aε⟩:=qp hK.ext IY xh;refine aR.beginRound γ rfl rfl AW rfl ?_;refine V.here (b:=Frame.round L 28 t1 .skip .skip .normal) (m:=3) (nt:=35) ?_ ⟨e9.holds.bL AV,e9.cA,e9.size,e9.rows⟩;refine V.fR γ rfl ?_;refine bl λΕ ζ=>?_;have cS:aG 0 (fD s):=η;have pW:aG 0 (cZ F):=η;have ih:il (fE l):=vY (f:=λn:Nat=>I n) λx=>by simp[θ.cells]
  refine ae.one (as0:=[fD s,cZ F,I n,a6 lower,.ms 0 l.length 0 l.length]) (Xy s ν F cm n cw lower l (Nat.le_trans Z8 EX) aP) 2 rfl ih ih (λa κ=>by
   simp only[List.mem_cons,List.not_mem_nil,or_false] at κ;rcases κ with rfl|rfl|rfl|rfl|rfl
   ·exact cS.jg 1
   ·exact pW.jg 1
   ·exact(aG.z _).jg 1
   ·exact(aG.z _).jg 1
   ·exact oe.2 R) ((aG.z _).jg 1) (by simp[og,oh,cS.ei [2],pW.ei [2]]) ?_
  simp[oh];(repeat (rw[Ο];simp[]));apply ζ;have IZ:b8 S kQ B kR [oy,oz,fE l] [oy,oz,fE l]:=hK.all Α (Nat.le_refl _);have AX:=λy=>(κ.ext.trans hK.ext).bL U (y:=y) ⟨_,AW⟩;have aζ:=λy=>(AU.trans hK.ext).bL E0 (y:=y) ⟨_,AW⟩;cases Ph:rC s F n lower l
  ·refine aa rfl ?_
   repeat apply ad
   refine W.stop ?_;intro iP j4 hZ t5 kC lA;obtain⟨AY,AZ⟩:=qp kC.ext AV (show(jC.bL L _).obj L=some (.loop _) by simp[χ.bL];rfl);have E3:=kC.all (e9.holds.bL AV) (Nat.le_refl _);refine aR.endRound γ rfl rfl rfl AZ (jump:=none) (.inl ⟨rfl,rfl⟩) (Z9 (by rw[E2,List.find?_cons,Ph]) iP j4 _ ⟨((AX _).trans kC.ext).bL U ⟨_,AZ⟩,?_⟩ (IZ.trans E3) (lA.holds.bL AY) AY (by simp[χ.bL]));exact κ.later.trans (IZ.trans E3)
  ·refine ai rfl ?_;obtain⟨z,Τ⟩:=aK (l.map λn:Nat=>(n:Int));have aη:fE l=.cells 3 1 (z.map I):=by rw[Τ,List.map_map];rfl
   have k':z.length=l.length:=by rw[Τ,List.length_map]
   have Pj:=Xr z (by rw[k'];exact aγ);rw[k',<-aη] at Pj;have Pk:∀(e:Bool) (k:Nat),aG 0 (.sl e k (z.map I)):=λe k=>η;refine bl λΕ ζ=>?_;refine ae.HO (as0:=[.ms 0 l.length 0 l.length]) Pj 2 rfl ih (by simp[oe]) (by simp[og]) (λa bm aj=>?_);obtain⟨⟨e,kk,rfl,q6⟩,rfl⟩:=aj;refine⟨fE l,rfl,ih,(Pk e kk).jg 1,?_⟩;rw[(Pk e kk).ei [2]];simp;(repeat (rw[Ο];simp[]));apply ζ;refine W.stop ?_;intro iP j4 hZ t5 kC lA;obtain⟨AY,AZ⟩:=qp kC.ext AV (show(jC.bL L _).obj L=some (.loop _) by simp[χ.bL];rfl);obtain⟨Pl,aθ⟩:=qp kC.ext aδ (show(jC.bL L _).obj r1=some (.deferred (some [])) by simp[χ.bL,E1,aε]);have E3:=kC.all (e9.holds.bL AV) (Nat.le_refl _);refine aR.endRound γ rfl rfl rfl AZ (jump:=some .ret) (.inr (.inl ⟨rfl,_,rfl⟩)) (Z' _ λiΨ iΩ Pm=>?_);obtain⟨dK,dq⟩:=(lA.holds.bL (y:=.loop _) AY).sk (λb hb=>Pm.sk hb) Pm.grow;obtain⟨aι,Pn⟩:=qp dq AY (show(hZ.bL L _).obj L=some (.loop _) by simp[χ.bL];rfl);obtain⟨_,aκ⟩:=qp dq Pl (show(hZ.bL L _).obj r1=some (.deferred (some [])) by simp[χ.bL,E1,aθ]);refine aR.NU (b:={IU vs with defers:=[⟨.collected r1,#[]⟩]}) (t:=t1) γ rfl Pn η ?_;refine aR.ret (b:={IU vs with defers:=[⟨.collected r1,#[]⟩]}) γ rfl rfl ?_;refine Pg _ iP j4 _ _ (ym s F n lower) z 0 e kk rfl rfl rfl rfl ((((((aζ _).trans kC.ext).bL E0 ⟨_,AZ⟩)).trans dq).bL E0 ⟨_,Pn⟩) (dK.bL aι) Pl (by simp[χ.bL,E1,aκ]) (wB ((ru.later (IZ.trans E3))) η) rfl rfl rfl rfl ?_ q6;rw[Γ,E2,List.find?_cons,Ph,Τ]
 ·obtain⟨IY,xh⟩:=qp κ.ext IW AT;have ru:=mT.cA.later (Pf _ _ _ _ κ);have oQ:Ext fu [] ec S B H:=qf.ext.trans (EZ.trans κ.ext);refine aR.NU (b:={IU vs with defers:=[⟨.collected r1,#[]⟩]}) (t:=t1) γ rfl ab η ?_;refine V.here (m:=0) (nt:=35) (S:=S) (B:=B) (σ:=[oy,oz]) (env:=ym s F n lower) ?_ ⟨Α.bL lq,wB ru η,mT.size,Nat.zero_le _⟩;refine V.fR γ rfl ?_;simp only[Option.map_none,Option.toList_none,List.nil_append];refine Η ?_;refine W.stop ?_;intro iP j4 hZ t5 kC lA;have aμ:∀y,(H.bL L y).obj r1=some (.deferred (some [])):=λy=>by simp[χ.bL,E1,xh]
  obtain⟨k1,cN⟩:=qp kC.ext IY (aμ _);refine aR.ret γ rfl rfl ?_;refine Pg _ iP j4 hZ _ _ [] 11 true 0 rfl rfl rfl rfl ((oQ.bL E0 ⟨_,ab⟩).trans kC.ext) lA.holds k1 cN lA.cA rfl rfl rfl rfl ?_ (λh=>absurd rfl h);rw[Γ,E2];rfl
end
end Go.TL
namespace Go.TL
open Go.Proofs
variable [bn]
def fx:aT:=⟨[⟨⟨#[98]⟩,9⟩,⟨⟨#[99]⟩,4⟩,⟨⟨#[100]⟩,6⟩,⟨⟨#[105]⟩,48⟩,⟨⟨#[111]⟩,12⟩],[[1,2],[0],[0,1,2]],[[⟨0,4,59⟩,⟨1,8,3⟩],[⟨0,0,63⟩,⟨1,4,8⟩]]⟩
theorem A0:az Tryz.prog 72 [] (fD fx):=by
 refine ae.body Ρ Tryz.func72 rfl rfl Tryz.ntmps72 rfl rfl η ?_
 repeat apply ad
 refine dM (A:=[0]) Ρ λΕ ζ=>bD ?_;apply ζ
 repeat apply ad
 refine bl λΕ ζ=>?_;apply ζ;refine W.fix (id:=0) (σ':=[]) (Nat.zero_le _) rfl η η rfl [(0,.ao [.sl true 2 [eP ⟨⟨#[98]⟩,9⟩,eP ⟨⟨#[99]⟩,4⟩,eP ⟨⟨#[100]⟩,6⟩,eP ⟨⟨#[105]⟩,48⟩,eP ⟨⟨#[111]⟩,12⟩],.sl true 1 [gf [1,2],gf [0],gf [0,1,2]],.sl true 1 [.sl true 3 [eQ ⟨0,4,59⟩,eQ ⟨1,8,3⟩],.sl true 3 [eQ ⟨0,0,63⟩,eQ ⟨1,4,8⟩]]])] η ?_;refine W.rt ?_;refine .a5 (.cons .ex (.cons ?_ (.cons ?_ .nil)))
 ·exact .map (l:=[[1,2],[0],[0,1,2]]) (f:=gf) λx _=>.one .ex rfl rfl
 ·exact .map (l:=[[⟨0,4,59⟩,⟨1,8,3⟩],[⟨0,0,63⟩,⟨1,4,8⟩]]) (f:=λl:List fi=>.sl true 3 (l.map eQ)) λx _=>.one .ex rfl rfl
end Go.TL
namespace Go.TL
open Go.Conc Go.Proofs
open Go.ConcN (sumTo upd sumTo_upd upd_ne upd_same sumTo_congr le_sumTo)
variable [bn]
section
variable {P:Program} {Q:Value->Prop} {mn:Bool} {y:aZ} {f f' b:Frame} {cs cs':List Frame} {H:χ} {t:Array Value} {k:List Item} {ops:Array Oper} {i:Nat} {rest:List Nat} {op:Oper}
theorem cx.quiet (γ:e0 y) (ν:∀w,stepG P mn (Go.Conc.G f cs) w=.go (Go.Conc.G f' cs') w #[]) (h:cx P Q mn y f' cs' H):cx P Q mn y f cs H:=
 Quiet.goes (.cons ⟨rfl,rfl⟩ ν (.nil _)) γ ⟨rfl,rfl⟩ h
theorem cx.next (γ:e0 y) (hb:b.mode=.run) {id:Nat} {I0:Array Oper} {c:Code} (h:cx P Q mn y (aA b t (.inRegion I0 (List.range I0.size)::.code c::k)) cs H):cx P Q mn y (aA b t (.inRegion ops []::.code (.seq (.region id I0 false) c)::k)) cs H:=
 .quiet γ (λw=>(jy hb w).trans rfl) (.quiet γ (λw=>(jy hb w).trans rfl) (.quiet γ (λw=>(jy hb w).trans rfl) h))
theorem aν {ty:TypeId} {inf:TypeInfo} {z:Value} (hi:P.info? ty=some inf) (Τ:inf.zero=some z) (w:World) :
  (Instr.alloc ty true (.tuple #[])).run P w=.ok (ptr w.heap.size 0) (w.alloc (.cells z.cells ty (0,0)))/\∀es,(Instr.alloc ty true (.tuple #[])).events P w es=es:=by
 constructor
 ·simp[Instr.alloc,zeroValue,typeInfo,newVar,newRow,hi,Τ,Result.andThen]
 ·intro es;simp[Instr.alloc,zeroValue,typeInfo,newVar,newRow,hi,Τ,Result.andThen,Result.evThen]
theorem cx.I1 {ty:TypeId} {inf:TypeInfo} {z:Value} (ep:y.rel=false) (bW:m0 b ops i op) (Μ:op.op=.alloc ty) (Ξ:op.guard=none) (hi:P.info? ty=some inf) (Τ:inf.zero=some z)
  (h:∀r,H.fresh r->(∀Ψ v,y.aM Ψ=some v->Ψ<r)->cx P Q mn {y with aM:=upd y.aM r (some (z.cells,ty))} (aA b (put op t (ptr r 0)) (.inRegion ops rest::k)) cs H):cx P Q mn y (aA b t (.inRegion ops (i::rest)::k)) cs H:=by
 refine Goes.step (e0.ok (.inl ep)) (.inr ⟨⟨rfl,rfl⟩,.inl λw Υ hv=>?_⟩);obtain⟨r1,r2⟩:=aν (P:=P) hi Τ w;have hw:Region.wanted op (yielded ops t)=true:=by unfold Region.wanted;rw[Ξ]
 have zr:stepG P mn (Go.Conc.G (aA b t (.inRegion ops (i::rest)::k)) cs) w=.go (Go.Conc.G (aA b (put op t (ptr w.heap.size 0)) (.inRegion ops rest::k)) cs) (w.alloc (.cells z.cells ty (0,0))) #[]:=by
  have e:execOp (bp t) op=(do pure (.value (<-Instr.alloc ty true (.tuple #[])))):=by unfold execOp;rw[Μ]
  rw[gO bW.run bW.ro,gO bW.run bW.ro,<-uq];have ι:(execOp (⟨t,b.defers⟩:_root_.Go.Act).eval op).run P w=.ok (.value (ptr w.heap.size 0)) (w.alloc (.cells z.cells ty (0,0))):=by rw[md,e];simp[r1,Result.andThen]
  have he:(execOp (⟨t,b.defers⟩:_root_.Go.Act).eval op).events P w #[]=#[]:=by rw[md,e];simp[r1,r2,Result.evThen]
  rw[stepG_value bW.op hw bW.kd ι];unfold listed;rw[he,seen_none]
 rw[zr];have hu:=(dX.start Υ).row z.cells ty;have A1:χ.fresh H w.heap.size:=Υ.fresh;have km:Sub H (H.dL w.heap.size z.cells ty):=by
  refine⟨λΨ o v p hb=>⟨p,?_,id⟩,λΨ x hb=>?_,λΨ x hb=>hb⟩
  ·have:Ψ≠w.heap.size:=λe=>by rw[e,A1.1 o] at hb;cases hb
   simpa[χ.dL,this] using hb
  ·have:Ψ≠w.heap.size:=λe=>by rw[e,A1.2.1] at hb;cases hb
   simpa[χ.dL,this] using hb
 have aP:∀Ψ v,y.aM Ψ=some v->Ψ<w.heap.size:=λΨ v hb=>by
  have:=hv Ψ v.1 v.2 hb;exact(Array.getElem?_eq_some_iff.1 this).1
 refine⟨H,upd y.aM w.heap.size (some (z.cells,ty)),⟨rfl,rfl⟩,hu.keeps,km.fits hu.fit,λΨ c' t' hb=>?_,⟨λΨ o v p hb=>.inr ⟨v,p,hb,id⟩,λΨ hb=>.inr hb⟩,λΨ c' hb=>?_,λe he=>by simp at he,λΨ c' _ _ e he=>by simp at he,h _ A1 aP⟩
 ·by_cases e:Ψ=w.heap.size
  ·subst e;rw[upd_same] at hb;cases hb;exact Cn
  ·rw[upd_ne _ _ e] at hb;have J:=hv Ψ c' t' hb;have U:=aP Ψ _ hb;show(w.heap.push _)[Ψ]?=_;rw[Array.getElem?_push_lt U];rw[fq U] at J;exact J
 ·by_cases e:Ψ=w.heap.size
  ·exact .inr ⟨Nat.le_of_eq e.symm,⟨λo ⟨x,γ⟩=>(by rw[e,A1.1 o] at γ;cases γ),λ⟨x,γ⟩=>(by rw[e,A1.2.2.1] at γ;cases γ)⟩⟩
  ·rw[upd_ne _ _ e] at hb;exact .inl hb
theorem aξ {B:Type} {s:Nat}:upd (λ_=>(none:Option B)) s none=λ_=>none:=by
 funext i
 by_cases e:i=s
 ·subst e;exact upd_same ..
 ·exact upd_ne _ _ e
theorem cx.group {sp:Spec} {s m o:Nat} {ty I2 A2:TypeId} {c:Array Value} (ep:y.rel=false) (fX:y.aM=λ_=>none) (sc:m<s) (I3:s<o) (fz:sp.aW=some m) (xA:H.fresh o) (cQ:sp.an [] (χ.empty.dL o c A2))
  (h:cx P Q mn {y with tok:=upd y.tok s (.par 0 0 .add),spec:=upd y.spec s (some sp),view:=upd y.view s none} f cs H) :
  cx P Q mn {y with aM:=upd (upd (upd y.aM m (some (#[.int .i32 0,.int .u32 0],I2))) s (some (#[.int .u64 0,.int .u32 0],ty))) o (some (c,A2))} f cs H:=by
 have hU:s≠o:=Nat.ne_of_lt I3
 have gl:m≠o:=R
 have Cd:m≠s:=Nat.ne_of_lt sc;refine Goes.step (e0.ok (.inl ep)) (.inr ⟨⟨rfl,rfl⟩,.inr (.inr (.inr (.inr (.inr (.inr (.inr (.inr (.inr (.inr (.inl ⟨o,c,A2,upd_same ..,?_⟩))))))))))⟩);refine Goes.step (e0.ok (.inl ep)) (.inr ⟨⟨rfl,rfl⟩,.inr (.inr (.inr (.inr (.inr (.inr (.inr (.inr (.inr (.inr (.inr ⟨s,sp,ty,H,χ.empty.dL o c A2,?_,λb5 dp=>?_,ep,?_,λ_=>cQ,?_⟩))))))))))⟩)
 ·show upd (upd _ o _) o none s=_;rw[upd_ne _ _ hU,upd_ne _ _ hU,upd_same]
 ·rw[fz] at dp;cases dp;refine⟨Cd,I2,?_⟩;show upd (upd _ o _) o none m=_;rw[upd_ne _ _ gl,upd_ne _ _ gl,upd_ne _ _ Cd,upd_same]
 ·refine⟨⟨λΨ q v p hb=>⟨p,?_,id⟩,λΨ x hb=>?_,λΨ x hb=>hb⟩,⟨λΨ q v p hb=>⟨p,?_,id⟩,λΨ x hb=>?_,λΨ x hb=>(by cases hb)⟩,⟨λΨ q ⟨v,hv⟩ ⟨x,γ⟩=>?_,λΨ q ⟨v,hv⟩ ⟨x,γ⟩=>?_,λΨ _ ⟨x,γ⟩=>(by cases γ)⟩⟩
  ·have:Ψ≠o:=λe=>by rw[e,xA.1 q] at hb;cases hb
   simpa[this] using hb
  ·have:Ψ≠o:=λe=>by rw[e,xA.2.1] at hb;cases hb
   simpa[this] using hb
  ·by_cases e:Ψ=o
   ·simpa[χ.dL,e] using hb
   ·simp[χ.dL,e,χ.empty] at hb
  ·by_cases e:Ψ=o
   ·simpa[χ.dL,e] using hb
   ·simp[χ.dL,e,χ.empty] at hb
  ·by_cases e:Ψ=o
   ·rw[e,xA.1 q] at hv;cases hv
   ·simp[χ.dL,e,χ.empty] at γ
  ·by_cases e:Ψ=o
   ·rw[e,xA.1 q] at γ;cases γ
   ·simp[χ.dL,e,χ.empty] at hv
 ·have e:(λΨ=>if Ψ=s\/sp.aW=some Ψ then none else upd (upd (upd (upd y.aM m (some (#[.int .i32 0,.int .u32 0],I2))) s (some (#[.int .u64 0,.int .u32 0],ty))) o (some (c,A2))) o none Ψ)=y.aM:=by
   funext Ψ
   rw[fX];by_cases Δ:Ψ=s\/sp.aW=some Ψ
   ·rw[if_pos Δ]
   ·rw[if_neg Δ];rw[fz] at Δ;have Γ:Ψ≠s:=λe=>Δ (.inl e);have a2:Ψ≠m:=λe=>Δ (.inr (by rw[e]));by_cases cL:Ψ=o
    ·rw[cL,upd_same]
    ·rw[upd_ne _ _ cL,upd_ne _ _ cL,upd_ne _ _ Γ,upd_ne _ _ a2]
  have dg:Goes P Q mn (Go.Conc.G f cs) {y with G:=H,aM:=y.aM,tok:=upd y.tok s (.par 0 0 .add),spec:=upd y.spec s (some sp),view:=upd y.view s none}:=h;rw[<-e] at dg;exact dg
theorem cx.Gn {s n p:Nat} {sp:Spec} {g:FuncId} {mZ:Array Value} (ep:y.rel=false) (tH:y.deaf=0) (b0:y.spec s=some sp) (Ν:y.tok s=.par n (p+1) .add) (bW:m0 b ops i op) (Ξ:op.guard=none) {fo:Operand} {eh:Array TypeId} (Μ:op.op=.go ⟨.value fo,#[],eh⟩) (rb:op.dst=none)
  (hv:bp t fo=.func (.func g) #[] mZ) {S:aJ} (Α:Holds S [] [] H) (J:cx P Q mn {y with tok:=upd y.tok s (.par n p .add),view:=upd y.view s none} (aA b t (.inRegion ops rest::k)) cs (rN S H))
  (U:Goes P Q false (born P ⟨.fn (.func g) mZ,#[]⟩) {bx (mg s sp) s (.ch (n-(p+1)) .idle .work) none 0 with G:=m8 S}):cx P Q mn y (aA b t (.inRegion ops (i::rest)::k)) cs H:=by
 have hw:Region.wanted op (yielded ops t)=true:=by unfold Region.wanted;rw[Ξ]
 have zr:∀w,stepG P mn (Go.Conc.G (aA b t (.inRegion ops (i::rest)::k)) cs) w=.spawn (Go.Conc.G (aA b t (.inRegion ops rest::k)) cs) (born P ⟨.fn (.func g) mZ,#[]⟩) w #[]:=λw=>by
  have e:execOp (bp t) op=(do pure (.spawn (<-Deferred.ofValue (bp t fo) (#[].map (bp t))))):=by unfold execOp;rw[Μ];rfl
  rw[gO bW.run bW.ro,gO bW.run bW.ro];have ι:(execOp (⟨t,b.defers⟩:_root_.Go.Act).eval op).run P w=.ok (.spawn ⟨.fn (.func g) mZ,#[]⟩) w:=by rw[md,e,hv];simp[Deferred.ofValue,Result.andThen]
  have he:(execOp (⟨t,b.defers⟩:_root_.Go.Act).eval op).events P w #[]=#[]:=by rw[md,e,hv];simp[Deferred.ofValue,Result.andThen,Result.evThen]
  rw[stepG_spawn (a:=⟨t,b.defers⟩) bW.op hw bW.kd ι rfl];have:(⟨t,b.defers⟩:_root_.Go.Act).put op.dst undef=⟨t,b.defers⟩:=by rw[rb];rfl
  rw[this];unfold listed;rw[he,seen_none]
 refine Goes.step (e0.ok (.inl ep)) (.inr ⟨⟨rfl,rfl⟩,.inr (.inr (.inr (.inr (.inr (.inr (.inr (.inr (.inl ⟨s,sp,n,p,Go.Conc.G (aA b t (.inRegion ops rest::k)) cs,born P ⟨.fn (.func g) mZ,#[]⟩,rN S H,m8 S,b0,Ν,tH,⟨rfl,rfl⟩,⟨rfl,rfl⟩,ep,λw _=>zr w,Zf Α,J,?_⟩))))))))⟩);have e:({bx (mg s sp) s (.ch (n-(p+1)) .idle .work) none 0 with G:=m8 S}:aZ)=⟨m8 S,λ_=>none,upd (λ_=>.nil) s (.ch (n-(p+1)) .idle .work),upd (λ_=>none) s (some sp),λ_=>none,0,false⟩:=by
  unfold bx;simp only[aξ]
 rw[<-e];exact U
end
end Go.TL
