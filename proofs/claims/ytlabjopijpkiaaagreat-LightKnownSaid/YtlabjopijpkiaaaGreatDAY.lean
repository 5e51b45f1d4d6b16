import Derived.Conc.Own2
import Derived.Test.YtlabjopijpkiaaaGreatDAR
import Derived.Test.YtlabjopijpkiaaaGreatDAS
import Derived.Test.YtlabjopijpkiaaaGreatDAU
import Derived.Test.YtlabjopijpkiaaaGreatDAX
set_option maxHeartbeats 16000000
set_option maxRecDepth 20000
set_option linter.unusedSectionVars false
set_option linter.unusedSimpArgs false
set_option linter.unusedVariables false
namespace Go.TL
open Go.Conc
open Go.ConcN (upd)
def rn (S:aD) (H:π):π:={H with aJ:=λb o=>match S b o with|some v=>some (v,false)|none=>H.aJ b o}
def mL (S:aD):π:=⟨λb o=>(S b o).map (·,false),λ_=>none,λ_=>none⟩
def aD.plus (S T:aD):aD:=λb o=>match S b o with|some v=>some v|none=>T b o
structure nh (β:Nat) (bz:aD) (E:π):Prop where
 aJ:∀b o x,E.aJ b o=some x->bz b o≠none\/β<b
 row:∀b x,E.row b=some x->β<b
 obj:∀b x,E.obj b=some x->β<b
def vO (r:Row):Prop:=∃t k l,r=.cells t k l
section
variable {S az hx eg bz:aD} {B B':aP} {σ σ':List Row} {H H' di E G:π} {β:Nat}
theorem Ay {b o:Nat} {v:Value} (h:S b o=some v):(rn S H).aJ b o=some (v,false):=by simp only[rn,h]
theorem Ig {b o:Nat} (h:S b o=none):(rn S H).aJ b o=H.aJ b o:=by simp only[rn,h]
theorem Ih {b o:Nat} {v:Value} (h:S b o=some v):(mL S).aJ b o=some (v,false):=by simp only[mL,h];rfl
theorem Eb {b o:Nat} {x:Value×Bool} (h:(mL S).aJ b o=some x):∃v,S b o=some v/\x=(v,false):=by
 cases μ:S b o with
 | none=>simp[mL,μ] at h
 | some v=>exact⟨v,rfl,by simp[mL,μ] at h;exact h.symm⟩
theorem Az {b o:Nat} {v:Value} (h:S b o=some v):S.plus hx b o=some v:=by simp only[aD.plus,h]
theorem Ec {b o:Nat} (h:S b o=none):S.plus hx b o=hx b o:=by simp only[aD.plus,h]
theorem join_some {b o:Nat} {x:Value×Bool} (h:H.aJ b o=some x):(join H E).aJ b o=some x:=by simp only[join,h]
theorem join_none {b o:Nat} (h:H.aJ b o=none):(join H E).aJ b o=E.aJ b o:=by simp only[join,h]
theorem YE {b:Nat} {x:TypeId×Nat} (h:(join H E).row b=some x):H.row b=some x\/E.row b=some x:=by
 cases ι:H.row b with
 | none=>simp only[join,ι] at h;exact .inr h
 | some y=>simp only[join,ι] at h;exact .inl h
theorem YF {b:Nat} {x:Obj} (h:(join H E).obj b=some x):H.obj b=some x\/E.obj b=some x:=by
 cases ι:H.obj b with
 | none=>simp only[join,ι] at h;exact .inr h
 | some y=>simp only[join,ι] at h;exact .inl h
theorem YG (χ:Holds S [] [] H):Split H (rn S H) (mL S):=by
 refine⟨⟨λb o v p h=>?_,λb x h=>h,λb x h=>h⟩,⟨λb o v p h=>?_,λb x h=>(by cases h),λb x h=>(by cases h)⟩,⟨λb o ⟨v,h⟩ ⟨x,k⟩=>?_,λb o ⟨v,h⟩ _=>?_,λb _ ⟨x,h⟩=>(by cases h)⟩⟩
 ·cases μ:S b o with
  | some u=>
   rw[Ay μ] at h;cases h;obtain⟨eQ,ς⟩:=χ.dc b o _ μ;exact⟨eQ,ς,λe=>by cases e⟩
  | none=>rw[Ig μ] at h;exact⟨p,h,id⟩
 ·obtain⟨u,μ,e⟩:=Eb h;cases e;obtain⟨eQ,ς⟩:=χ.dc b o _ μ;exact⟨eQ,ς,λe=>by cases e⟩
 ·obtain⟨u,μ,e⟩:=Eb k;rw[Ay μ] at h;cases h
 ·obtain⟨u,μ,e⟩:=Eb h;cases e
theorem YH (χ:Holds S [] [] H):Holds S [] [] (rn S H):=
 ⟨λb o v h=>⟨false,Ay h⟩,rfl,λid r bo h=>by simp at h,λi j ef b8 b gh gi _ h=>by simp at h,λid r b N h=>by simp at h⟩
theorem YI:Holds S [] [] (mL S):=
 ⟨λb o v h=>⟨false,Ih h⟩,rfl,λid r bo h=>by simp at h,λi j ef b8 b gh gi _ h=>by simp at h,λid r b N h=>by simp at h⟩
theorem YJ (χ:Holds S [] [] H):Ext S [] H S [] (rn S H):=by
 refine⟨λ_ _ _ h=>h,λb _ _=>⟨λo=>?_,rfl,rfl⟩,λb h=>.inl h,λb o v h=>.inl h,λb h=>?_⟩
 ·cases μ:S b o with
  | none=>exact .inl (Ig μ)
  | some v=>
   obtain⟨p,ς⟩:=χ.dc b o v μ;exact .inr ⟨v,p,rfl,ς,Ay μ⟩
 ·have key:∀b o,(rn S H).aJ b o=none->H.aJ b o=none:=λb o h=>by
   cases μ:S b o with
   | none=>rw[Ig μ] at h;exact h
   | some v=>rw[Ay μ] at h;cases h
  exact⟨λo=>key b o (h.1 o),h.2.1,h.2.2.1,λΨ hb=>⟨λo=>key Ψ o ((h.2.2.2 Ψ hb).1 o),(h.2.2.2 Ψ hb).2⟩⟩
theorem Holds.pA (χ:Holds S B σ H) (κ:∀b,¬H.fresh b->ky H H' b) (Ο:∀b,H'.fresh b->H.fresh b):Holds S B σ H'/\Ext S B H S B H':=by
 have B6:∀b o x,H.aJ b o=some x->¬H.fresh b:=λb o x h Υ=>by rw[Υ.1 o] at h;cases h
 refine⟨⟨λb o v h=>?_,χ.len,λid r bo ι ek=>?_,χ.inj,χ.sep⟩,⟨λ_ _ _ h=>h,λb _ Υ=>m1.of (κ b Υ),λb h=>.inl h,λb o v h=>.inl h,Ο⟩⟩
 ·obtain⟨p,ς⟩:=χ.dc b o v h;exact⟨p,by rw[(κ b (B6 b o _ ς)).1];exact ς⟩
 ·by_cases e4:r.live
  ·refine(χ.row id r bo ι ek).later (bQ.refl S B σ) (λb N e=>κ b (χ.ny ι e4 (by rw[ek,e]))) λm left cur e=>?_;subst e;obtain⟨_,_,aU,kx,xs,clock,seen,_,I,⟨es,R⟩,_⟩:=χ.row id _ bo ι ek;exact⟨rfl,rfl,λb N hb=>κ b (χ.ny R trivial hb)⟩
  ·cases r<;>first|exact absurd trivial e4|trivial
theorem Ext.pA (h:Ext fb [] H az [] H') {b:Nat} (Υ:¬H.fresh b):ky H H' b:=(h.fH b (λ⟨N,x⟩=>by simp at x) Υ).pA λ_=>rfl
theorem Oy {w:World} (dn:Fits H w) (df:Fits E w) {b o:Nat} {u v:Value} {p q:Bool} (h:H.aJ b o=some (u,p)) (k:E.aJ b o=some (v,q)):u=v:=by
 have I:=dn.aJ b o u p h;rw[df.aJ b o v q k] at I;exact(Option.some.inj I).symm
theorem YK {w:World} (dn:Fits H w) (df:Fits E w) (iw:Apart H E) {b N:Nat} {t:TypeId} (ι:E.row b=some (t,N)) (Α:∀o,o<N->∃v,E.aJ b o=some (v,true)):(∀o,H.aJ b o=none)/\ky E (join H E) b:=by
 obtain⟨c,I,R⟩:=df.row b t N ι;have Ε:∀o,H.aJ b o=none:=λo=>by
  cases U:H.aJ b o with
  | none=>rfl
  | some x=>
   have ε:=dn.aJ b o x.1 x.2 U;by_cases aI:o<N
   ·exact absurd ⟨x,U⟩ (iw.qv b o (Α o aI))
   ·simp only[World.cell?,I] at ε;simp[R,aI] at ε
 refine⟨Ε,λo=>join_none (Ε o),?_,?_⟩
 ·cases U:H.row b with
  | none=>simp only[join,U]
  | some x=>
   obtain⟨c',ν,Ι⟩:=dn.row b x.1 x.2 U;rw[I] at ν;cases ν;simp only[join,U,ι];obtain⟨y6,pz⟩:=x
   simp_all
 ·cases U:H.obj b with
  | none=>simp only[join,U]
  | some x=>
   obtain⟨ν,Ι⟩:=dn.obj b x U;rw[I] at ν;cases ν;simp[Obj.rE] at Ι
theorem Oz (χ:Holds S [] [] H) (df:Holds hx B σ E) (iw:Apart H E) (hw:∃w,Fits H w/\Fits E w) (lI:∀r∈σ,vO r) :
  Holds (S.plus hx) B σ (join H E)/\bQ S (S.plus hx) [] B [] σ/\bQ hx (S.plus hx) B B σ σ:=by
 obtain⟨w,dn,e'⟩:=hw;have st:∀b o v,hx b o=some v->S.plus hx b o=some v:=λb o v h=>by
  cases μ:S b o with
  | none=>rw[Ec μ];exact h
  | some u=>
   obtain⟨p,ς⟩:=χ.dc b o u μ;obtain⟨q,Χ⟩:=df.dc b o v h;rw[Az μ,Oy dn e' ς Χ]
 have l1:bQ S (S.plus hx) [] B [] σ:=⟨λb o v h=>Az h,λid r h=>by simp at h⟩
 have l2:bQ hx (S.plus hx) B B σ σ:=⟨st,λid r h=>⟨r,h,r.rQ _⟩⟩
 have mine:∀(id:Nat) (r:Row) (b N:Nat),σ[id]?=some r->B[id]?=some (some (b,N))->(∀o,H.aJ b o=none)/\ky E (join H E) b:=λid r b N ι hb=>by
  obtain⟨t,k,l,rfl⟩:=lI r (cx ι);obtain⟨Γ,_,Θ,_⟩:=df.row id _ _ ι hb;exact YK dn e' iw Γ Θ
 refine⟨⟨λb o v h=>?_,df.len,λid r bo ι ek=>?_,df.inj,λid r b N ι e4 ek o=>?_⟩,l1,l2⟩
 ·cases μ:S b o with
  | some u=>
   rw[Az μ] at h;cases h;obtain⟨p,ς⟩:=χ.dc b o _ μ;exact⟨p,join_some ς⟩
  | none=>
   rw[Ec μ] at h;obtain⟨p,ς⟩:=df.dc b o v h;cases U:H.aJ b o with
   | none=>exact⟨p,by rw[join_none U];exact ς⟩
   | some x=>
    obtain⟨u,q⟩:=x;have:=Oy dn e' U ς;subst this;exact⟨q,join_some U⟩
 ·refine(df.row id r bo ι ek).later l2 (λb N e=>(mine id r b N ι (by rw[ek,e])).2) λm left cur e=>?_;subst e;obtain⟨t,k,l,e⟩:=lI _ (cx ι);cases e
 ·have I:=(mine id r b N ι ek).1 o;cases μ:S b o with
  | some u=>
   obtain⟨p,ς⟩:=χ.dc b o u μ;rw[I] at ς;cases ς
  | none=>rw[Ec μ];exact df.sep id r b N ι e4 ek o
theorem Ii {o:Nat} {x:Value×Bool} (κ:G.aJ β o=some x) {b:Nat} (Υ:G.fresh b):β<b:=by
 by_cases e:β<b
 ·exact e
 ·rcases Nat.lt_or_ge b β with h|h
  ·have:=(Υ.2.2.2 β h).1 o;rw[κ] at this;cases this
  ·obtain rfl:β=b:=by omega
   rw[Υ.1 o] at κ;cases κ
theorem Ij {b:Nat} (Υ:G.fresh β) (h:β<b):G.fresh b:=
 ⟨(Υ.2.2.2 b h).1,(Υ.2.2.2 b h).2.1,(Υ.2.2.2 b h).2.2,λΨ dF=>Υ.2.2.2 Ψ (Nat.lt_trans h dF)⟩
theorem YL (fA:∀b o v,S b o=some v->bz b o≠none\/β<b):nh β bz (mL S):=
 ⟨λb o x h=>let ⟨v,I,_⟩:=Eb h;fA b o v I,λb x h=>(by cases h),λb x h=>(by cases h)⟩
theorem nh.join (h:nh β bz G) (k:nh β bz E):nh β bz (join G E):=by
 refine⟨λb o x U=>?_,λb x U=>(YE U).elim (h.row b x) (k.row b x),λb x U=>(YF U).elim (h.obj b x) (k.obj b x)⟩;cases Ο:G.aJ b o with
 | none=>rw[join_none Ο] at U;exact k.aJ b o x U
 | some y=>exact h.aJ b o y Ο
theorem nh.ext (h:nh β bz G) {G':π} (he:Ext S B G az B' G') (e1:∀b,B.has b->β<b) {o:Nat} {x:Value×Bool} (κ:G.aJ β o=some x):nh β bz G':=by
 have key:∀b,¬β<b->m1 S G G' b:=λb hb=>he.fH b (λk=>hb (e1 b k)) λk=>hb (Ii κ k);refine⟨λb o x U=>?_,λb x U=>?_,λb x U=>?_⟩
 ·by_cases hb:β<b
  ·exact .inr hb
  ·rcases(key b hb).1 o with e|⟨v,p,_,e,_⟩
   ·rw[e] at U;exact h.aJ b o x U
   ·exact h.aJ b o _ e
 ·by_cases hb:β<b
  ·exact hb
  ·rw[(key b hb).2.1] at U;exact h.row b x U
 ·by_cases hb:β<b
  ·exact hb
  ·rw[(key b hb).2.2] at U;exact h.obj b x U
theorem OA {G':π} (he:Ext S B G az B' G') (e1:¬B.has β) (κ:∃o x,G.aJ β o=some x):∃o x,G'.aJ β o=some x:=by
 obtain⟨o,x,U⟩:=κ;rcases(he.fH β e1 (λΥ=>by rw[Υ.1 o] at U;cases U)).1 o with e|⟨v,p,_,_,e⟩
 ·exact⟨o,x,by rw[e];exact U⟩
 ·exact⟨o,_,e⟩
theorem nh.blocks (h:nh β bz E) (df:Holds hx B σ E) (lI:∀r∈σ,vO r) {b:Nat} (hb:B.has b):β<b:=by
 obtain⟨N,c5⟩:=hb;obtain⟨id,b7⟩:=List.getElem?_of_mem c5;have aI:id<σ.length:=by rw[<-df.len];exact(bV.1 b7).1
 have ι:=ba aI;obtain⟨t,k,l,e⟩:=lI _ (cx ι);rw[e] at ι;exact h.row b _ (df.row id _ _ ι b7).1
theorem YM (he:Ext eg [] di S [] H) (fA:∀b o v,bz b o=some v->S b o=some v) (Υ:di.fresh β) (hi:nh β bz E) (χ:Holds S [] [] H) (df:Holds hx B σ E) (lI:∀r∈σ,vO r) :
  Ext eg [] di (S.plus hx) B (join H E):=by
 have xi:∀b,¬aP.has ([]:aP) b:=λb ⟨N,h⟩=>by simp at h
 have old:∀b,¬di.fresh b->¬β<b:=λb h k=>h (Ij Υ k)
 have same:∀b,¬β<b->∀o,(join H E).aJ b o=H.aJ b o:=λb hb o=>by
  cases U:H.aJ b o with
  | some x=>rw[join_some U]
  | none=>
   rw[join_none U];cases Φ:E.aJ b o with
   | none=>rfl
   | some y=>
    rcases hi.aJ b o y Φ with k|k
    ·cases μ:bz b o with
     | none=>exact absurd μ k
     | some v=>
      obtain⟨p,ς⟩:=χ.dc b o v (fA b o v μ);rw[U] at ς;cases ς
    ·exact absurd k hb
 refine⟨λb o v h=>Az (he.dc b o v h),λb _ oG=>?_,λb hb=>.inr (Ij Υ (hi.blocks df lI hb)),λb o v h=>?_,λb h=>he.grow b ?_⟩
 ·have hb:=old b oG;obtain⟨k1,bG,mi⟩:=he.fH b (xi b) oG;refine⟨λo=>by rw[same b hb o];exact k1 o,?_,?_⟩
  ·cases U:E.row b with
   | none=>rw[<-bG];simp only[join,U];cases H.row b<;>rfl
   | some x=>exact absurd (hi.row b x U) hb
  ·cases U:E.obj b with
   | none=>rw[<-mi];simp only[join,U];cases H.obj b<;>rfl
   | some x=>exact absurd (hi.obj b x U) hb
 ·cases μ:S b o with
  | some u=>rw[Az μ] at h;cases h;exact he.qQ b o _ μ
  | none=>
   rw[Ec μ] at h;obtain⟨p,ς⟩:=df.dc b o v h;rcases hi.aJ b o _ ς with k|k
   ·cases rl:bz b o with
    | none=>exact absurd rl k
    | some u=>rw[fA b o u rl] at μ;cases μ
   ·exact .inr (.inr (Ij Υ k))
 ·have c:∀b o,(join H E).aJ b o=none->H.aJ b o=none:=λb o h=>by
   cases U:H.aJ b o with
   | none=>rfl
   | some x=>rw[join_some U] at h;cases h
  have r:∀b,(join H E).row b=none->H.row b=none:=λb h=>by
   cases U:H.row b with
   | none=>rfl
   | some x=>simp only[join,U] at h;cases h
  have o:∀b,(join H E).obj b=none->H.obj b=none:=λb h=>by
   cases U:H.obj b with
   | none=>rfl
   | some x=>simp only[join,U] at h;cases h
  exact⟨λo'=>c b o' (h.1 o'),r b h.2.1,o b h.2.2.1,λΨ hb=>⟨λo'=>c Ψ o' ((h.2.2.2 Ψ hb).1 o'),r Ψ (h.2.2.2 Ψ hb).2.1,o Ψ (h.2.2.2 Ψ hb).2.2⟩⟩
end
end Go.TL
namespace Go.TL
open Go.Conc Go.Proofs
open Go.ConcN (sumTo upd sumTo_upd upd_ne upd_same sumTo_congr le_sumTo)
noncomputable def under (P:Program):Frame:={(default:Frame) with fn:=P.funcs.size,defers:=[],mode:=.panicking [goexitEntry]}
theorem YN {P:Program} {g:FuncId} {cap:Array Value} (Ο:Plain P g) (w:World):stepG P false (born P ⟨.fn (.func g) cap,#[]⟩) w=.go (Go.Conc.G (Frame.enter P g cap .deferred) [under P]) w #[]:=by
 obtain⟨fn,I,R,ν⟩:=Ο;have hg:¬fn.name = "runtime.NumGoroutine" := by simpa using R
 have YO:¬fn.body=none:=by intro e;rw[e] at ν;cases ν
 simp[born,stepG,unwind,callDeferred,invoke,callFunc,I,hg,YO,seen,GStep.after,Go.Conc.G,under]
theorem YP {P:Program} {b:Frame} {fn:Func} (cf:P.funcs[b.fn]?=some fn) (e5:fn.results=#[]) (eu:b.defers=[]) (hm:b.mode=.returning) (ψ:b.kind=.deferred):k7 P 0 (Go.Conc.G b [under P]):=by
 refine⟨2,QuitsD.ctl (g':=Go.Conc.G (under P) []) rfl (λw=>?_) ?_⟩
 ·simp[Go.Conc.G,stepG,unwind,hm,eu,cf,doReturn,results,e5,ψ,under,seen,GStep.after,goexitEntry]
 ·refine QuitsD.ctl (g':={Go.Conc.G (under P) [] with status:=.finished}) rfl (λw=>?_) ⟨rfl,rfl⟩;simp[Go.Conc.G,stepG,unwind,under,goexitEntry,Frame.catches];rfl
def sK (l:List θ):θ:=if l.isEmpty then .sl true 0 [] else .ms 1 l.length 0 l.length
def gD (l:List θ):List Row:=.cells 99 1 [sK l]::bF 110 3 l
theorem Ik:sK []=.sl true 0 []:=rfl
theorem Ed {l:List θ} (h:l≠[]):sK l=.ms 1 l.length 0 l.length:=by unfold sK;rw[if_neg (by simpa using h)]
theorem OB {l:List θ} {x:θ}:sK (l++[x])=.ms 1 (l.length+1) 0 (l.length+1):=by rw[Ed η];simp
theorem Ee (l:List θ):∀r∈gD l,vO r:=by
 intro r h;unfold gD bF at h;rcases List.mem_cons.1 h with rfl|h
 ·exact⟨_,_,_,rfl⟩
 ·split at h
  ·cases h
  ·simp at h;subst h;exact⟨_,_,_,rfl⟩
def vP (β:Nat) (bz:aD) (o:Nat) (fd:Nat->Option Found) (L:List Nat) (E:π):Prop:=
 nh β bz E/\∃S B,Holds S B (gD ((L.filterMap fd).map dd)) E/\B[0]?=some (some (o,1))
theorem YQ {S az:aD} {B B':aP} {l dX:List θ} {m:Nat} (h:bQ S az (B.take m) B' ((gD l).take m) (gD dX)) (hm:0<m):B'[0]?=B[0]?:=by
 obtain⟨m,rfl⟩:∃k,m=k+1:=⟨m-1,γ⟩;obtain⟨r',I,R⟩:=h.rows 0 (.cells 99 1 [sK l]) (by simp[gD]);have:r'=.cells 99 1 [sK dX]:=by simpa[gD] using I.symm
 subst this;rcases R with⟨l2,_,_,ν⟩|ν
 ·simpa[List.getElem?_take] using ν
 ·have:=ν 1 η;simp[Row.g1] at this
section
variable {β s m o k:Nat} {S bz:aD} {fd:Nat->Option Found} {sp:Spec} {d':aL} {a b:Int} {v1 v2 vQ:Value} {f:Found} {n:Nat}
abbrev lT (s:Nat) (sp:Spec):aW:=⟨π.empty,λ_=>none,λ_=>.nil,upd (λ_=>none) s (some sp),λ_=>none,0,false⟩
abbrev Ef (s m o:Nat) (v1 v2 vQ:Value):Array Value:=#[ptr s 0,v1,v2,vQ,ptr m 0,ptr o 0]
abbrev Il (s m o:Nat) (d':aL) (a b:Int):List θ:=[.z (ptr s 0),.aa [aS d'.Τ,aY d'.ai,a7 d'.cells],.aa [J a],.aa [J b],.z (ptr m 0),.z (ptr o 0)]
theorem OC:(lT s sp).spec s=some sp:=upd_same (λ_=>(none:Option Spec)) s (some sp)
theorem OD (fr:sp.aU=some m) (gC:sp.top<7):jm (lT s sp) s m sp:=⟨rfl,rfl,OC,fr,gC,λ_ _=>trivial⟩
theorem YR (gC:sp.top<7):Ov (lT s sp) s sp:=⟨rfl,rfl,OC,gC,λ_ _=>trivial⟩
theorem YS (fr:sp.aU=some m) (gC:sp.top<7) (fz:sp.D k π.empty) {Q:Value->Prop} {c:Frame} {H:π} {v:Option (Nat×aN)} {d1:Deferred} (m8:vu Tryz.prog d1 142 #[ptr s 0])
  (hm:c.mode=.returning) (eu:c.defers=[d1]) (ψ:c.kind=.deferred) (cf:c.fn=141):cm Tryz.prog Q false (bw (lT s sp) s (.ch k .done .work) v 0) c [under Tryz.prog] H:=by
 letI:bj:=eP;have U:Seq (one (bw (lT s sp) s (.ch k .done .work) v 0)):=Seq.tM trivial rfl rfl;refine aE.deferred (x:=one _) U (by rw[hm];simp) eu m8.t1 m8.t2 m8.run (λy Φ=>?_) _ rfl;cases Φ;refine YD (YR gC) fz hm ?_;exact YP (fn:=Tryz.f141) (by rw[cf];exact Tryz.func141) rfl rfl hm ψ
theorem YT (fr:sp.aU=some m) (gC:sp.top<7) (dy:sp.bb=vP β bz o fd) (fz:sp.D k π.empty) {Q:Value->Prop} {c:Frame} {jP:aD} {jQ:aP} {hJ:π} {L:List Nat} {v:Option (Nat×aN)} {d1 d2:Deferred}
  (m8:vu Tryz.prog d1 142 #[ptr s 0]) (qj:vu Tryz.prog d2 145 #[ptr m 0]) (hm:c.mode=.returning) (eu:c.defers=[d2,d1]) (ψ:c.kind=.deferred) (cf:c.fn=141)
  (χ:Holds jP jQ (gD (((L++[k]).filterMap fd).map dd)) hJ) (e1:jQ[0]?=some (some (o,1))) (hi:nh β bz hJ) (κ:∃q x,hJ.aJ β q=some x) :
  cm Tryz.prog Q false (bw (lT s sp) s (.ch k (.dj L) .work) v 0) c [under Tryz.prog] hJ:=by
 letI:bj:=eP;have U:Seq (one (bw (lT s sp) s (.ch k (.dj L) .work) v 0)):=Seq.tM trivial rfl rfl;refine aE.deferred (x:=one _) U (by rw[hm];simp) eu qj.t1 qj.t2 qj.run (λy Φ=>?_) _ rfl;cases Φ;refine X4 (x:=lT s sp) (s:=s) (c:={c with defers:=[d1]}) (OD fr gC) χ hm λjN jO he kJ=>⟨π.empty,jO,⟨Sub.empty _,Sub.refl _,(Apart.s8 _).symm⟩,?_,λv2 gm fE _=>?_⟩
 ·rw[dy];obtain⟨dD,p2,p3⟩:=χ.back he kJ;obtain⟨q,x,Χ⟩:=κ;exact⟨hi.ext he (λb ⟨N,h⟩=>by simp at h) Χ,jN,jQ,dD,e1⟩
 ·exact YS fr gC fz m8 hm rfl ψ cf
end
section
variable {β s m o k:Nat} {S bz:aD} {fd:Nat->Option Found} {sp:Spec} {d':aL} {a b:Int} {v1 v2 vQ:Value} {f:Found} {n:Nat}
noncomputable abbrev YU (vs:Array Value) (ds:List Deferred):Frame:={Frame.enter Tryz.prog 141 vs .deferred with defers:=ds}
noncomputable def Eg:Code:=Tryz.f141.body.getD .skip
theorem YV (fr:sp.aU=some m) (gC:sp.top<7) (dy:sp.bb=vP β bz o fd) (fz:sp.D k π.empty) (Im:∀c:bj,@Ω c Tryz.prog 78 [dd f,J (-1)] (J n)) (xY:fd k=if 0<n then some f else none) {Q:Value->Prop}
  {az:aD} {H' E:π} {L:List Nat} (χ:Holds az [] [] H') (df:sp.bb L E) (iw:Apart H' E) (hw:∃w,Fits H' w/\Fits E w) (hlen:((L.filterMap fd).map dd).length<=4294967295) (oI:nh β bz H') (YW:∃q x,H'.aJ β q=some x)
  {t:Array Value} (μ:cX az [] [] [(4,.z (ptr m 0)),(5,.z (ptr o 0)),(6,.aa (dd f).cells)] t) (cC:t.size=20) {vs:Array Value} {d1:Deferred} (m8:vu Tryz.prog d1 142 #[ptr s 0]) {ops:Array Oper} :
  cm Tryz.prog Q false (bw (lT s sp) s (.ch k (.dj L) .work) none 0) (ax (YU vs [d1]) t [.inRegion ops [],.code (dI [1,1,1] Eg)]) [under Tryz.prog] (join H' E):=by
 letI:bj:=eP;have U:Seq (one (bw (lT s sp) s (.ch k (.dj L) .work) none 0)):=Seq.tM trivial rfl rfl;rw[dy] at df;obtain⟨hi,hx,rp,vR,e1⟩:=df;obtain⟨l,υ⟩:=aO ((L.filterMap fd).map dd);have ih:l.length<=4294967295:=υ▸hlen;rw[<-υ] at vR;obtain⟨Io,l1,l2⟩:=Oz χ vR iw hw (Ee l);have jk:∀b,rp.has b->β<b:=λb=>hi.blocks vR (Ee l);have YX:∃q x,(join H' E).aJ β q=some x:=let ⟨q,x,h⟩:=YW;⟨q,x,join_some h⟩;have aB:t.getD 5 undef=ptr o 0:=by
  have:=μ 5;generalize t.getD 5 undef=u at this;cases this;rfl
 have rl:cX (az.plus hx) rp (gD l) [(4,.z (ptr m 0)),(5,.an 0 1 0 0),(6,.aa (dd f).cells)] t:=λi=>by
  have ao:=(μ i).later l1;simp only[bc] at ao ⊢;by_cases cF:4=i
  ·simpa[cF] using ao
  by_cases eU:5=i
  ·subst eU;simp only[show ¬4=5 by decide,if_false,if_true];rw[aB];have:=au.an (S:=az.plus hx) (B:=rp) (σ:=gD l) (id:=0) (n:=1) (i:=0) (j:=0) (k:=1) (t:=99) (l:=[sK l]) (b:=o) (N:=1) (by simp[gD]) rfl e1;simpa using this
  ·simpa[cF,eU] using ao
 have leave:∀(dX:List θ) (gm:aD) (gN:aP) (fE:π) (c:Frame) (d2:Deferred),dX=((L++[k]).filterMap fd).map dd->eO 1 (az.plus hx) rp (join H' E) (gD l) gm gN fE (gD dX)->Holds gm gN (gD dX) fE->vu Tryz.prog d2 145 #[ptr m 0]->
   c.mode=.returning->c.defers=[d2,d1]->c.kind=.deferred->c.fn=141->cm Tryz.prog Q false (bw (lT s sp) s (.ch k (.dj L) .work) none 0) c [under Tryz.prog] fE:=λdX gm gN fE c d2 e bR Ip qj c1 c2 c3 c4=>by
  subst e;obtain⟨q,x,Χ⟩:=YX;exact YT fr gC dy fz m8 qj c1 c2 c3 c4 Ip (by rw[YQ bR.later γ];exact e1) ((oI.join hi).ext bR.ext jk Χ) (OA bR.ext (λh=>Nat.lt_irrefl _ (jk β h)) ⟨q,x,Χ⟩)
 refine V.here (x:=one _) (m:=1) (nt:=20) (S:=az.plus hx) (B:=rp) (σ:=gD l) (env:=[(4,.z (ptr m 0)),(5,.an 0 1 0 0),(6,.aa (dd f).cells)]) ?_ ⟨Io,rl,cC,by simp[gD]⟩ _ rfl;refine V.eY U rfl ?_;refine W.bJ ?_;simp only[Eg,Tryz.f141,Option.getD_some,dI];refine cI ?_;refine W.cn (.stop ?_);refine V.defer U rfl rfl rfl rfl rfl rfl rfl ⟨_,Tryz.func145,rfl,rfl⟩ λjP jQ hJ t3 d2 H9 fW eG sn qj=>?_;obtain rfl:=mD (l:=[ptr m 0]) sn;rintro y rfl;refine V.here (x:=one _) (m:=1) (nt:=20) ?_ eG _ rfl;refine V.eY U rfl ?_;refine W.bJ ?_;refine a5 λΔ ζ=>?_;refine Ω.d (Im _) (aV ?_);apply ζ;by_cases Ε:0<n
 ·refine aA (by simp[Ε]) ?_;refine W.g8 (A:=[19]) Ρ [] (gD (l++[dd f])) (.stop ?_) (by
   by_cases Μ:l=[]
   ·subst Μ;(try simp);(repeat (rw[ae];simp[gD,Ik,jg]));(try simp[gD,Ik,jg]);exact⟨rfl,rfl⟩
   ·(try simp);(repeat (rw[ae];simp[gD,Ed Μ,fF Μ,OB,p5]));(try simp[gD,Ed Μ,fF Μ,OB,p5]);exact ih)
  intro gm gN fE t5 fN g9;refine aE.rO U rfl rfl ?_;rintro y rfl;exact leave _ gm gN fE _ d2 (by rw[List.filterMap_append,List.map_append,<-υ];simp[xY,Ε]) (fW.trans fN) g9.holds qj rfl rfl rfl rfl
 ·refine ay (by simp;omega) ?_;refine cI ?_;refine W.stop ?_;intro gm gN fE t5 fN g9;refine aE.rO U rfl rfl ?_;rintro y rfl;exact leave _ gm gN fE _ d2 (by rw[List.filterMap_append,List.map_append,<-υ];simp[xY,Ε]) (fW.trans fN) g9.holds qj rfl rfl rfl rfl
theorem rq {S:aD} {B:aP} {σ:List Row} {env env':ab} {t:Array Value} (h:cX S B σ env t) (μ:∀p∈env',bc env p.1=p.2):cX S B σ env' t:=by
 induction env' with
 | nil=>exact λi=>.cg _
 | cons p l ω=>
  intro i;simp only[bc];split
  ·rename_i e;have:=μ p η;rw[<-this,e];exact h i
  ·exact ω (λq Χ=>μ q (by simp[Χ])) i
theorem YY (fr:sp.aU=some m) (gC:sp.top<7) (dy:sp.bb=vP β bz o fd) (fz:sp.D k π.empty) (YZ:∀c:bj,@Ω c Tryz.prog 143 [dH d',aC (a,b)] (dd f))
  (Im:∀c:bj,@Ω c Tryz.prog 78 [dd f,J (-1)] (J n)) (xY:fd k=if 0<n then some f else none) (Y0:∀L:List Nat,L.Nodup->((L.filterMap fd).map dd).length<=4294967295)
  (κ:∃q v,S β q=some v) (fA:∀b q v,S b q=some v->bz b q≠none\/β<b) (Iq:fj S [] [] (Il s m o d' a b) (Ef s m o v1 v2 vQ)) {Q:Value->Prop} :
  Goes Tryz.prog Q false (born Tryz.prog ⟨.fn (.func 141) (Ef s m o v1 v2 vQ),#[]⟩) {bw (lT s sp) s (.ch k .idle .work) none 0 with G:=mL S}:=by
 letI:bj:=eP;have tT:Seq (one (bw (lT s sp) s (.ch k .idle .work) none 0)):=Seq.tM trivial rfl rfl;refine Quiet.goes (.cons ⟨rfl,rfl⟩ (λw=>YN ⟨_,Tryz.func141,rfl,rfl⟩ w) (.nil _)) (.inl rfl) ⟨rfl,rfl⟩ ?_;show cm Tryz.prog Q false (bw (lT s sp) s (.ch k .idle .work) none 0) (Frame.enter Tryz.prog 141 (Ef s m o v1 v2 vQ) .deferred) [under Tryz.prog] (mL S);rw[nR (body:=Eg) Tryz.func141 rfl];refine V.here (x:=one _) (m:=0) (nt:=20) (S:=S) (B:=[]) (σ:=[]) (env:=entry 0 (Il s m o d' a b)) ?_ (fi.enter YI Iq (Nat.le_refl _) η) _ rfl;refine V.eY tT rfl ?_;simp only[Eg,Tryz.f141,Option.getD_some];refine cI ?_;refine W.cn (.stop ?_);refine V.defer tT rfl rfl rfl rfl rfl rfl rfl ⟨_,Tryz.func142,rfl,rfl⟩ λjP jQ hJ t3 d1 H9 fW eG sn m8=>?_;obtain rfl:=mD (l:=[ptr s 0]) sn;obtain rfl:jQ=[]:=dB.1 eG.holds.len;rintro y rfl;refine V.here (x:=one _) (m:=0) (nt:=20) ?_ eG _ rfl;refine V.eY tT rfl ?_;refine W.bJ ?_;refine cI ?_;refine cR (A:=[6]) Ρ λΔ ζ=>aV ?_;refine Ω.d (YZ _) (aV ?_);apply ζ;refine W.fix (id:=0) (σ':=[]) (Nat.zero_le _) rfl η η rfl [(4,.z (ptr m 0)),(5,.z (ptr o 0)),(6,.aa (dd f).cells)] (by simp[entry]) ?_;refine cI ?_;refine W.cn (.stop ?_);refine V.call tT ⟨rfl,rfl,by simp[Frame.enter],rfl⟩ rfl rfl rfl ⟨_,Tryz.func144,rfl,rfl⟩ λjN o0 jO t4 X2 sm pY HZ=>?_;obtain rfl:=mD (l:=[ptr m 0]) HZ;obtain rfl:o0=[]:=dB.1 pY.holds.len;rintro y rfl;refine XV (OD fr gC) pY.holds λgm fE L E OE Ip df iw ⟨kR,KD,hw⟩=>?_;rw[ie rfl];have oO:Ext S [] (mL S) gm [] fE:=fW.ext.trans (sm.ext.trans OE);obtain⟨ic,u0,xZ⟩:=κ;have jk:∀b,¬aP.has ([]:aP) b:=λb ⟨N,h⟩=>by simp at h
 exact YV fr gC dy fz Im xY Ip df iw hw (Y0 L kR) ((YL fA).ext oO (λb h=>absurd h (jk b)) (Ih xZ)) (OA oO (jk β) ⟨ic,_,Ih xZ⟩)
  (by
   refine cX.later (rq (pY.put (a:=.z (.tuple #[])) rfl (.z _)).b5 (by simp[b6])) ⟨OE.dc,λid r h=>by simp at h⟩) (pY.put (a:=.z (.tuple #[])) rfl (.z _)).size m8
end
end Go.TL
namespace Go.TL
open Go.Conc Go.Proofs
variable [bj]
noncomputable abbrev Y1 (vs:Array Value):Frame:=Frame.enter Tryz.prog 126 vs .normal
abbrev qk (L:Nat):θ:=.fn (.yield L) [] []
structure Y2 (Q:Value->Prop) (mn:Bool) (x:gJ) (cs:List Frame) (tU:Frame) (o:Base) (L:Nat) (r:Loop) (n:Nat) (jo jq:Row) (Fnd:List (List Nat)->Prop):Prop where
 m:o.m=2
 bZ:eV 2 jo
 bK:eV 2 jq
 c7:r.params.size=1
 round:∀(l:List Nat) (rem:List (List Nat)),Fnd (l::rem)->l.length<=n->(∀x∈l,x<n)->∀(S:aD) (B:aP) (H:π) (ws:Array Value) (c:Frame),eO 2 o.S o.B o.H o.σ S B H [jo,jq,dP l]->Holds S B [jo,jq,dP l] H->¬B.has L->H.obj L=some (.loop r)->fj S B [jo,jq,dP l] [.ms 2 l.length 0 l.length] ws->
  (Fnd rem->∀(az:aD) (B':aP) (H':π),eO 2 o.S o.B o.H o.σ az B' H' [jo,jq,dP l]->bQ S az B B' [jo,jq,dP l] [jo,jq,dP l]->Holds az B' [jo,jq,dP l] H'->¬B'.has L->H'.obj L=some (.loop r)->aE Tryz.prog Q mn x (c.finish (.bool true)) (tU::cs) H')->
  (∀H',(∀(cL:aD) (bH:π),Ext fb [] H' cL [] bH->aE Tryz.prog Q mn x (tU.finish (.tuple #[])) cs bH)->aE Tryz.prog Q mn x (c.finish (.bool false)) (tU::cs) H')->
  aE Tryz.prog Q mn x (Frame.round L r.fn ((r.params.zip ws).foldl (λtmps (t,a)=>tmps.setIfInBounds t a) r.tmps) r.assign r.body .normal) (c::tU::cs) H
 done:Fnd []->∀(S:aD) (B:aP) (H:π),eO 2 o.S o.B o.H o.σ S B H [jo,jq]->Holds S B [jo,jq] H->¬B.has L->H.obj L=some (.loop r)->aE Tryz.prog Q mn x (tU.finish (.tuple #[])) cs H
def rr (c i:Nat):List Int:=(List.range i).map (λj:Nat=>(j:Int))++List.replicate (c-i) 0
theorem Y3 {c i:Nat} (h:i<c):(rr c i).set i (i:Int)=rr c (i+1):=by
 unfold rr;have Γ:((List.range i).map λj:Nat=>(j:Int)).length=i:=η;have Θ:c-i=(c-(i+1))+1:=γ;rw[List.set_append_right _ _ γ,Γ,Nat.sub_self,Θ,List.replicate_succ,List.set_cons_zero,List.range_succ,List.map_append];simp
theorem Y4 {c i:Nat} (h:i<=c):(rr c i).length=c:=by simp[rr];omega
theorem Y5 (c:Nat):(rr c c).map J=(List.range c).map λn:Nat=>J n:=by simp[rr]
section
variable {Q:Value->Prop} {mn:Bool} {x:gJ} {cs:List Frame} {tU:Frame} {o:Base} {L:Nat} {r:Loop} {n:Nat} {jo jq:Row} {Fnd:List (List Nat)->Prop} {vs:Array Value}
theorem OF (U:Seq x) (Ε:n<=10) (hC:Y2 Q mn x cs tU o L r n jo jq Fnd) (ao:Fnd (jl n 0)) :
  sE Tryz.prog Q mn x (Y1 vs) (tU::cs) 72 o L r [.code (Tryz.f126.body.getD .skip)] (entry 0 [qk L,.aa [J n]]) [jo,jq]:=by
 have hm:=hC.m;refine sE.eY U rfl ?_;simp only[Tryz.f126,Option.getD_some];have z9:=eX (show n<11 by omega) γ;refine aT z9 ?_;refine W.iter (λc:Nat=>c<=n+1/\Fnd (jl n c)) (λc=>[(0,qk L),(1,.aa [J n]),(9,J ((n:Int)+1)),(10,J c)]) (λ_=>[jo,jq]) (λc=>n+1-c) 0 ⟨Nat.zero_le _,ao⟩ rfl (by simp[entry,z9]) (λc ε ω=>?_);obtain⟨m3,e'⟩:=ε;refine Β ?_;by_cases mX:c<n+1
 ·refine aA (by simp;omega) ?_;refine Β ?_;have jE:(0:Int)<=c:=γ;have Y6:(8:Int)*c<=281474976710656:=γ;refine cR (A:=[14]) Ρ λΔ ζ=>aV ?_;simp[Y6];(repeat (rw[ae];simp[]));apply ζ;refine Β ?_;refine W.iter (λi:Nat=>i<=c) (λi=>[(0,qk L),(1,.aa [J n]),(9,J ((n:Int)+1)),(10,J c),(3,J c),(4,.ms 2 c 0 c),(16,J c),(17,J i)]) (λi=>[jo,jq,.cells 3 1 ((rr c i).map J)]) (λi=>c-i) 0 (Nat.zero_le _) (by simp[rr]) η (λi hi e6=>?_);refine Β ?_;by_cases mM:i<c
  ·refine aA (by simp[mM]) ?_;have ja:=eX mM (show c<2 ^ 62 by omega);have CE:=Y4 (Nat.le_of_lt mM);have rY:=Y3 mM;obtain⟨G,dn⟩:=aO (rr c i);rw[<-dn] at CE rY ⊢;have Y7:i<G.length:=γ;refine aT (Ζ CE (Ζ mM (Ζ Y7 ja))) ?_;refine W.to (e6 (i+1) mM γ) ?_ ?_
   ·rw[<-rY];simp
   ·simp[ja]
  ·have ec:i=c:=by omega
   subst ec;refine ay η ?_;refine W.exit rfl ?_;rw[Y5]
   repeat apply al
   refine W.iter (λx:Nat×List Nat=>qe n x.1 x.2=true/\x.2.length=i/\Fnd (n0 n x.1 x.2++jl n (i+1))) (λ_=>[(0,qk L),(1,.aa [J n]),(9,J ((n:Int)+1)),(10,J i),(3,J i),(4,.ms 2 i 0 i)]) (λx=>[jo,jq,dP x.2]) (λx=>x.1) (300,List.range i)
    ⟨Xg n γ i mX,η,by rw[<-Xh mX];exact e'⟩ rfl η (λx U nX=>?_)
   obtain⟨g,l⟩:=x;obtain⟨ei,ih,AA⟩:=U;simp only at ei ih AA ⊢
   repeat apply al
   refine W.cn ?_;refine fp [0,1] [2,3] ?_;refine W.stop ?_;obtain⟨rem,Y8,OG⟩:∃rem,n0 n g l++jl n (i+1)=l::rem/\((qd n l=none/\rem=jl n (i+1))\/∃eD ah,qd n l=some eD/\g=ah+1/\rem=n0 n ah eD++jl n (i+1)/\qe n ah eD=true):=by
    cases OH:qd n l with
    | none=>exact⟨jl n (i+1),by rw[Xk OH];rfl,.inl ⟨rfl,rfl⟩⟩
    | some eD=>
     obtain⟨ah,Γ,Θ,bO⟩:=Xl ei OH;exact⟨n0 n ah eD++jl n (i+1),by rw[Θ];rfl,.inr ⟨eD,ah,rfl,Γ,rfl,bO⟩⟩
   rw[Y8] at AA;have aI:=Xj ei;refine sE.yield U ⟨rfl,rfl,by simp[Frame.enter],rfl⟩ rfl rfl rfl hC.c7.symm λS B H t ws κ ς jk av hv=>?_;refine hC.round l rem AA γ aI S B H ws _ (by rw[<-hm];exact κ) ς.holds jk av (by rw[ih];exact hv) (λIr az B' H' eo Dl ij Y9 p7=>?_) (λH' μ=>?_)
   ·rw[ie rfl];have vS:cX az B' [jo,jq,dP l] [(27,.z (.bool true)),(0,qk L),(1,.aa [J n]),(9,J ((n:Int)+1)),(10,J i),(3,J i),(4,.ms 2 i 0 i)] (t.setIfInBounds 27 (.bool true)):=rq (cX.put (ς.b5.later Dl) (d:=27) (by rw[ς.size];omega) (.z _)) η;refine(sE.eY (env:=[(27,.z (.bool true)),(0,qk L),(1,.aa [J n]),(9,J ((n:Int)+1)),(10,J i),(3,J i),(4,.ms 2 i 0 i)]) (σ:=[jo,jq,dP l]) (o:=o) (L:=L) (r:=r) (nt:=72) U rfl ?_) az B' H' _ (by rw[hm];exact eo) ⟨ij,vS,Eq.trans (Array.size_setIfInBounds ..) ς.size,by rw[hm];simp⟩ Y9 p7;refine fp [3] [] ?_;refine W.bJ ?_;refine ay rfl ?_;have k6:IntKind.i64.wrap ((i:Int)-1)=(i:Int)-1:=IntWalk.i64_in _ γ;refine aT k6 ?_;refine W.iter (λe:Nat=>e<=i/\qc n l i=qc n l e) (λe=>[(0,qk L),(1,.aa [J n]),(9,J ((n:Int)+1)),(10,J i),(3,J i),(4,.ms 2 i 0 i),(6,J ((e:Int)-1))]) (λ_=>[jo,jq,dP l]) (λe=>e) i ⟨Nat.le_refl _,rfl⟩ rfl (by simp[k6]) (λe he yY=>?_);obtain⟨hβ,OI⟩:=he
    repeat apply al
    have z':=eX mX (show n+1<2 ^ 62 by omega)
    have kW:qd n l=(qc n l e).map λq=>mE l q (l.length-q):=by unfold qd;rw[ih,OI]
    cases e with
    | zero=>
     have FP:rem=jl n (i+1):=by
      rcases OG with⟨_,h⟩|⟨eD,ah,h,_⟩
      ·exact h
      ·rw[kW] at h;simp[qc] at h
     rw[FP] at Ir;refine vl ?_;refine ay rfl ?_;refine W.exit rfl ?_;refine Β ?_;refine aA rfl ?_;refine W.exit rfl ?_;refine W.drop (h:=2) (σ':=[jo,jq]) (by rw[hm];exact Nat.le_refl _) η (λid q b7 Χ=>by
      match id,b7,Χ with
      | 0,_,Χ=>simp at Χ;subst Χ;exact hC.bZ
      | 1,_,Χ=>simp at Χ;subst Χ;exact hC.bK) rfl [(0,qk L),(1,.aa [J n]),(9,J ((n:Int)+1)),(10,J i)] (by simp[hG]) ?_
     refine aT z' ?_;refine W.to (ω (i+1) ⟨mX,Ir⟩ γ) rfl ?_;simp[z']
    | succ e=>
     have m2:e<l.length:=γ
     have hle:=aI _ (List.getElem_mem m2)
     have Eh:l.getD e 0=l[e]:=by simp[List.getD_eq_getElem?_getD,m2]
     have l':IntKind.i64.wrap ((n:Int)-i)=(n:Int)-i:=IntWalk.i64_in _ γ
     have ql:IntKind.i64.wrap ((n:Int)-i+e)=(n:Int)-i+e:=IntWalk.i64_in _ γ
     have o8:IntKind.i64.wrap ((e:Int)-1)=(e:Int)-1:=IntWalk.i64_in _ γ
     have OJ:e<i:=γ
     have rl:((e+1:Nat):Int)-1=e:=γ;rw[rl];refine fD (Ζ m2 (Ζ OJ (Ζ ih (Ζ l' ql)))) ?_;by_cases Χ:l[e]+i=n+e
     ·have Ei:qc n l (e+1)=qc n l e:=by rw[qc,if_pos (by rw[Eh,ih];exact Χ)]
      refine aA (by simp;omega) ?_;refine aT o8 ?_;refine W.to (yY e ⟨γ,by rw[OI,Ei]⟩ γ) rfl ?_;simp[o8]
     ·have Ei:qc n l (e+1)=some e:=by rw[qc,if_neg (by rw[Eh,ih];exact Χ)]
      refine ay (by simp;omega) ?_;refine W.exit rfl ?_;refine Β ?_;refine ay η ?_;obtain⟨eD,ah,jS,hγ,Y',Za⟩:∃eD ah,qd n l=some eD/\g=ah+1/\rem=n0 n ah eD++jl n (i+1)/\qe n ah eD=true:=by
       rcases OG with⟨h,_⟩|h
       ·rw[kW,Ei] at h;cases h
       ·exact h
      have h2:eD=mE l e (i-e):=by
       rw[kW,Ei] at jS;simp at jS;rw[<-jS,ih]
      have Zb:IntKind.i64.wrap ((l[e]:Int)+1)=(l[e]:Int)+1:=IntWalk.i64_in _ γ
      have OK:IntKind.i64.wrap ((e:Int)+1)=(e:Int)+1:=IntWalk.i64_in _ γ;refine aT (Ζ m2 (Ζ OJ (Ζ ih (Ζ Zb OK)))) ?_;refine W.iter (λp:Nat=>e+1<=p/\p<=i) (λp=>[(0,qk L),(1,.aa [J n]),(9,J ((n:Int)+1)),(10,J i),(3,J i),(4,.ms 2 i 0 i),(7,J p)]) (λp=>[jo,jq,dP (mE l e (p-e))]) (λp=>i-p) (e+1) ⟨Nat.le_refl _,γ⟩ (by
       have:e+1-e=1:=γ;rw[this,Xm m2];simp) (by simp[OK]) (λp ς aF=>?_)
      obtain⟨hK,mq⟩:=ς;refine Β ?_;by_cases OL:p<i
      ·refine aA (by simp[OL]) ?_;obtain⟨q,hδ⟩:=aO (p-1);obtain⟨aj,bm⟩:=aO (mE l e (p-e));have sy:aj.length=i:=by rw[bm,NM γ,ih]
       have OM:q<aj.length:=γ
       have Zc:p<aj.length:=γ
       have Zd:q<i:=γ
       have Ze:aj[q]=l[e]+(p-e):=by
        have:=Xn (l:=l) (i:=e) (k:=p-e) γ γ
        have Γ:e+(p-e)-1=q:=γ;rw[Γ,<-bm,Eh] at this;simpa[List.getD_eq_getElem?_getD,OM] using this
       have tp:aj.set p (aj[q]+1)=mE l e (p+1-e):=by
        have:=Xo (l:=l) (i:=e) (k:=p-e) γ
        have Γ:e+(p-e)=p:=γ
        have Θ:p-e+1=p+1-e:=γ;rw[Γ,Θ,<-bm,Eh,<-Ze] at this;exact this
       have Is:aj[q]<100:=γ
       have Zf:IntKind.i64.wrap ((p:Int)-1)=(q:Int):=by rw[IntWalk.i64_in _ γ];omega
       have Zg:IntKind.i64.wrap ((aj[q]:Int)+1)=(aj[q]:Int)+1:=IntWalk.i64_in _ γ
       have ON:IntKind.i64.wrap ((p:Int)+1)=(p:Int)+1:=IntWalk.i64_in _ γ;rw[<-bm];refine aT (Ζ Zf (Ζ OM (Ζ Zc (Ζ Zd (Ζ OL (Ζ sy (Ζ Zg ON))))))) ?_;refine W.to (aF (p+1) ⟨γ,γ⟩ γ) ?_ ?_
       ·rw[<-tp];simp
       ·simp[ON]
      ·have Zh:p=i:=by omega
       subst Zh;refine ay η ?_;refine W.exit rfl ?_
       repeat apply al
       refine W.to (nX (ah,eD) ⟨Za,by rw[h2,NM γ,ih],by rw[<-Y'];exact Ir⟩ (by show ah<g;omega)) (by rw[h2]) ?_;simp
   ·rw[ie rfl];have vS:cX fb [] [] [(27,.z (.bool false))] (t.setIfInBounds 27 (.bool false)):=λj=>by
     simp only[bc];split
     ·rename_i e;subst e;have:(t.setIfInBounds 27 (Value.bool false)).getD 27 undef=.bool false:=by
       have Zi:27<t.size:=by rw[ς.size];omega
       simp[Array.getD_eq_getD_getElem?,Zi]
      rw[this];exact .z _
     ·exact .cg _
    refine V.here (m:=0) (nt:=72) (S:=fb) (B:=[]) (σ:=[]) (env:=[(27,.z (.bool false))]) ?_ ⟨xQ H',vS,Eq.trans (Array.size_setIfInBounds ..) ς.size,Nat.zero_le _⟩;refine V.eY U rfl ?_;refine fp [3] [] ?_;refine W.bJ ?_;refine aA rfl ?_;refine W.stop ?_;refine V.HK U rfl rfl rfl rfl Tryz.func126 rfl λbz bB H1 lL jC=>?_;obtain rfl:bB=[]:=dB.1 jC.len;exact μ bz H1 lL.ext
 ·have sB:c=n+1:=by omega
  subst sB;refine ay η ?_;refine W.exit rfl ?_;refine W.stop ?_;intro S B H t κ ς jk av;rw[Xi] at e';refine aE.rO U rfl rfl (aE.back U rfl rfl (.inl rfl) Tryz.func126 ?_);rw[results_none rfl];rw[hm] at κ;exact ξ.pure' (hC.done e' S B H κ ς.holds jk av)
end
theorem OO (n:Nat):Ω Tryz.prog 83 [J n] (.fn (.func 126) [] [.aa [J n]]):=by
 refine ak.body Ρ Tryz.func83 rfl rfl Tryz.ntmps83 rfl rfl η ?_;refine Β ?_;refine W.rt ?_;exact .refl _
theorem Ext.Ej {S:aD} {B:aP} {H:π} {r:Nat} {y:Obj} (Υ:H.fresh r):Ext S B H S B (H.aZ r y):=
 ⟨λ_ _ _ h=>h,λb _ hb=>by
  have:b≠r:=λe=>hb (e▸Υ);exact m1.of ⟨λ_=>rfl,rfl,by simp[π.aZ,this]⟩,λb h=>.inl h,λb o v h=>.inl h,π.FW⟩
theorem Holds.Ek {S:aD} {B:aP} {σ:List Row} {H:π} (χ:Holds S B σ H) (lI:∀r∈σ,vO r) {b:Nat} (Υ:H.fresh b):¬B.has b:=λ⟨N,c5⟩=>by
 obtain⟨id,b7⟩:=List.getElem?_of_mem c5;have aI:id<σ.length:=by rw[<-χ.len];exact(bV.1 b7).1
 have ι:=ba aI;obtain⟨t,k,l,e⟩:=lI _ (cx ι);rw[e] at ι;exact χ.ny ι trivial b7 Υ
def sL (s:aL) (F:List Found) (cell:Int) (lower:Bool):List Int×Int:=
 if(fX s cell F).2.2≠0 then([],(fX s cell F).2.2)
 else match (jl s.ai.length 0).find? (q' s F cell.toNat lower) with
 | some l=>(l.map λn:Nat=>(n:Int),0)
 | none=>([],11)
abbrev n2:Row:=.cells 29 1 [.sl true 0 []]
abbrev n3:Row:=.cells 38 1 [J 0]
abbrev x0 (s:aL) (F:List Found) (cell:Int) (lower:Bool):ab:=[(3,.aa [aS s.Τ,aY s.ai,a7 s.cells]),(4,.aa [J cell]),(5,.aa [bs lower]),(6,.an 0 1 0 0),(7,.an 1 1 0 0),(8,.aa [aS s.Τ,aY s.ai,a7 s.cells]),(9,.aa [cj F])]
section
variable {Q:Value->Prop} {mn:Bool} {x:gJ} {c:Frame} {rest:List Frame} {eg S:aD} {B:aP} {di H:π} {σ:List Row} {res:List Int×Int} {l:List Int} {eM:Int} {e:Bool} {kk:Nat} {b:Frame} {t:Array Value} {k:List Item} {env:ab}
theorem OP (U:Seq x) (hX:ts Tryz.prog Q mn x c rest eg [] di [] (λa s=>cp a (.a3 [cS J 1 res.1,J res.2])/\s=[]) (λ_ _=>False)) (cf:b.fn=28) (gn:b.kind=.normal) (eu:b.defers=[]) (It:b.mode=.returning)
  (he:Ext eg [] di S B H) (χ:Holds S B σ H) (μ:cX S B σ env b.tmps) (bn:bc env 6=.an 0 1 0 0) (gO:bc env 7=.an 1 1 0 0) (Zj:σ[0]?=some (.cells 29 1 [.sl e kk (l.map J)])) (Zk:σ[1]?=some (.cells 38 1 [J eM])) (e5:res=(l,eM)) (ψ:l≠[]->kk=1):aE Tryz.prog Q mn x b (c::rest) H:=by
 subst e5;refine aE.back U It eu (.inl gn) (fn:=Tryz.f28) (by rw[cf];exact Tryz.func28) ?_;refine ξ.mono (λv fE ⟨gm,gN,eU,sW,aB,uz⟩=>?_) (λ_ _ h=>h) _ (zv Ρ (a:=.a3 [.sl e kk (l.map J),J eM]) (show nJ bf [.cell 6 29,.cell 7 38] env σ=some (.a3 [.sl e kk (l.map J),J eM]) by simp[nJ,q4,xh,bn,gO,Zj,Zk,r8,hR.agg,zu]) χ μ);obtain⟨I,R⟩:=aB.close (h:=0) (λid r b7=>γ);simp only[List.take_zero] at I R;have ι:au (gm.close gN σ fE 0) [] [] (.a3 [.sl e kk (l.map J),J eM]) v:=by
  have hb:aK 0 (.a3 [.sl e kk (l.map J),J eM]):=η
  have:=(uz.later (bQ.refl gm gN σ)).any hb [] [];exact this.later ⟨λb o v hv=>R.dc _ _ _ hv,λid r h=>by simp at h⟩
 have AB:=he.trans (eU.trans R);refine hX.ret _ [] _ [] fE v ⟨?_,rfl⟩ AB ⟨AB.dc,λid r h=>by simp at h⟩ I ι;refine .a3 (.cons ?_ (.cons (.refl _) .nil));by_cases υ:l=[]
 ·subst υ;exact .nil
 ·rw[ψ υ];exact .ex
end
noncomputable abbrev Iu (vs:Array Value):Frame:=Frame.enter Tryz.prog 28 vs .normal
theorem Iv {s:aL} {F:List Found} {cell:Int} (h:(fX s cell F).2.2=0):0<=cell/\cell<s.cells.length/\fX s cell F=(s,F,0):=by
 unfold fX at h ⊢;split at h
 ·rename_i I;simp at h;exact absurd h I
 ·split at h
  ·simp at h
  ·rename_i I R;rw[if_neg I,if_neg R];refine⟨γ,γ,?_⟩;unfold eH at h ⊢;rw[if_neg I] at h ⊢;split at h
   ·simp at h
   ·rename_i ν;rw[if_neg ν]
section
variable {Q:Value->Prop} {mn:Bool} {c:Frame} {rest:List Frame}
theorem OQ (s:aL) (μ:s.small) (F:List Found) (e':m' s F) (c5:DF s F) (cell:Int) (lower:Bool) (El:s.ai.length<=4) :
  Ω Tryz.prog 28 [dH s,J cell,bs lower] (.a3 [cS J 1 (sL s F cell lower).1,J (sL s F cell lower).2]):=by
 refine⟨⟨_,Tryz.func28,rfl,rfl⟩,λQ mn x c rest eg eh di vs U oB tV hX=>?_⟩;obtain rfl:eh=[]:=dB.1 oB.len;rw[nR (body:=Tryz.f28.body.getD .skip) Tryz.func28 rfl];refine V.here (x:=x) (m:=0) (nt:=35) (S:=eg) (B:=[]) (H:=di) (σ:=[]) (env:=entry 0 [dH s,J cell,bs lower]) ?_ (fi.enter oB tV (Nat.le_refl _) η);refine V.eY U rfl ?_;simp only[Tryz.f28,Option.getD_some]
 repeat apply al
 refine cR (A:=[6,7]) Ρ λΔ ζ=>aV ?_;apply ζ;refine cI ?_;refine cR (A:=[8,9]) Ρ λΔ ζ=>aV ?_;refine Ω.d (Hs s μ cell F e') (aV ?_);apply ζ;by_cases b:(fX s cell F).2.2=0
 case neg=>
  have e:sL s F cell lower=([],(fX s cell F).2.2):=by unfold sL;rw[if_pos b]
  rw[e] at hX;generalize (fX s cell F).2.2=eM at b hX ⊢;refine Β ?_;refine aA (by simp[b]) ?_;refine Β ?_;refine W.stop ?_;intro gm gN fE t5 fN g9;refine aE.ret U rfl rfl ?_;exact OP U hX rfl rfl rfl rfl fN.ext g9.holds g9.b5 rfl rfl rfl rfl rfl (λh=>absurd rfl h)
 obtain⟨jE,m3,e⟩:=Iv b;obtain⟨n,rfl⟩:∃n:Nat,cell=n:=⟨cell.toNat,γ⟩;have bA:n<s.cells.length:=γ;have Θ:sL s F n lower=match (jl s.ai.length 0).find? (q' s F n lower) with|some l=>(l.map λn:Nat=>(n:Int),0)|none=>([],11):=by
  unfold sL;rw[if_neg (by simpa using b)];rfl
 rw[e];refine W.fix (id:=3) (σ':=[n2,n3,.cells 98 3 [dH s]]) (Nat.zero_le _) rfl η (λid q b7 Χ=>by
  match id,b7,Χ with
  | 0,_,Χ=>simp at Χ;subst Χ;simp[eV,θ.cells]
  | 1,_,Χ=>simp at Χ;subst Χ;simp[eV,θ.cells]
  | 2,_,Χ=>simp at Χ;subst Χ;simp[eV,θ.cells]) rfl [(3,.aa [aS s.Τ,aY s.ai,a7 s.cells]),(4,.aa [J n]),(5,.aa [bs lower]),(6,.an 0 1 0 0),(7,.an 1 1 0 0),(8,.an 2 1 0 0),(9,.aa [cj F]),(10,J 0)] (by simp[kS]) ?_
 refine W.fix (id:=2) (σ':=[n2,n3]) (Nat.zero_le _) rfl η (λid q b7 Χ=>by
  match id,b7,Χ with
  | 0,_,Χ=>simp at Χ;subst Χ;simp[eV,θ.cells]
  | 1,_,Χ=>simp at Χ;subst Χ;simp[eV,θ.cells]) rfl ((10,J 0)::x0 s F n lower) (by simp[kS]) ?_
 refine Β ?_;refine ay rfl ?_;refine Β ?_;refine a5 λΔ ζ=>?_;refine Ω.d (OO s.ai.length) (aV ?_);apply ζ
 repeat apply al
 refine W.forget ((25,.fn (.func 126) [] [.aa [J s.ai.length]])::x0 s F n lower) η ?_;refine W.stop ?_;intro bz bB H1 t1 lL hK;have vI:∀r∈[n2,n3],vO r:=λr ι=>by
  simp only[List.mem_cons,List.not_mem_nil,or_false] at ι;rcases ι with rfl|rfl<;>exact⟨_,_,_,rfl⟩
 have bu:=hK.b5 25;simp only[bc,if_true] at bu;obtain⟨ag,tW⟩:=aO (t1.getD 25 undef);rw[<-tW] at bu;cases bu with
 | fn w1 k3 Ξ ah aR ca=>
 have Iw:w1=#[]:=Array.eq_empty_of_size_eq_zero (by rw[<-Ξ];rfl);subst Iw;refine aE.rangeFunc U rfl rfl (fo:=.tmp 25) tW.symm ⟨_,Tryz.func126,rfl,rfl⟩ λr1 L I R=>?_;have vT:¬bB.has r1:=hK.holds.Ek vI I;have sM:=hK.holds.aZ (y:=.deferred (some [])) vT;have sN:Ext bz bB H1 bz bB (H1.aZ r1 (.deferred (some []))):=Ext.Ej I;have qm:(H1.aZ r1 (.deferred (some []))).obj r1=some (.deferred (some [])):=by simp[π.aZ]
 have Ix:di.fresh r1:=lL.ext.grow _ I
 have sO:di.fresh L:=lL.ext.grow _ (sN.grow _ R);generalize Zl:H1.aZ r1 (.deferred (some []))=AD at R sM sN qm;have sP:r1≠L:=λe=>by rw[e,R.2.2.1] at qm;cases qm
 have AE:¬bB.has L:=sM.Ek vI R
 have AF:∀(S:aD) (B:aP) (H:π) (σ:List Row),eO 2 bz bB AD [n2,n3] S B H σ->bQ bz S bB B [n2,n3] σ:=λS B H σ κ=>κ.all sM η
 have AG:∀(k8:Frame) (S:aD) (B:aP) (H:π) (σ:List Row) (env:ab) (l:List Int) (eM:Int) (e:Bool) (kk:Nat),k8.fn=28->k8.kind=.normal->k8.mode=.returning->k8.defers=[⟨.collected r1,#[]⟩]->Ext eg [] di S B H->Holds S B σ H->¬B.has r1->H.obj r1=some (.deferred (some []))->
   cX S B σ env k8.tmps->bc env 6=.an 0 1 0 0->bc env 7=.an 1 1 0 0->σ[0]?=some (.cells 29 1 [.sl e kk (l.map J)])->σ[1]?=some (.cells 38 1 [J eM])->sL s F n lower=(l,eM)->(l≠[]->kk=1)->aE Tryz.prog Q mn x k8 (c::rest) H:=
  λk8 S B H σ env l eM e kk dh c6 gj qX qY Em Zm qh Iy Iz IA IB Zn Zo Zp=>by
  refine aE.collected U gj qX qh ?_;exact OP U hX (b:={k8 with defers:=[]}) dh c6 rfl gj (qY.aZ Ix ⟨_,qh⟩) (Em.aZ Zm) Iy Iz IA IB Zn Zo Zp
 rw[nR (body:=Tryz.f126.body.getD .skip) Tryz.func126 rfl];have AH:fj bz bB [n2,n3] ([qk L]++[.aa [J s.ai.length]]) (#[.func (.yield L) #[] #[]]++k3):=by
  refine fj.append ⟨rfl,λi a v dh c6=>?_⟩ ⟨ah,ca⟩
  match i with
  | 0=>simp at dh c6;subst dh;subst c6;exact .fn #[] #[] rfl rfl (λi a v hi=>by simp at hi) (λi a v hi=>by simp at hi)
  | i+1=>simp at dh
 refine OF (o:=⟨bz,bB,AD,[n2,n3],2⟩) (L:=L) (Fnd:=λrem=>(jl s.ai.length 0).find? (q' s F n lower)=rem.find? (q' s F n lower)) U (Nat.le_trans El a0) ?_ rfl bz bB _ _ (eO.of (Ext.Ej R) (bQ.refl ..)) (fi.enter (sM.aZ AE) AH (Nat.le_refl _) η) AE (by simp[π.aZ];rfl);refine⟨rfl,by simp[eV,θ.cells],by simp[eV,θ.cells],rfl,λl rem sQ OR aI S B H ws Zq κ χ jk av hv IC ID=>?_,λsQ S B H κ χ jk av=>?_⟩
 ·obtain⟨vU,qN⟩:=iI κ.ext vT qm;have IE:=AF _ _ _ _ κ;have k0:=hK.b5.later IE;have vV:Ext eg [] di S B H:=lL.ext.trans (sN.trans κ.ext);obtain⟨w0,rfl⟩:∃w0,ws=#[w0]:=by
   have I:=hv.1;clear hv;obtain⟨wl⟩:=ws
   match wl,I with
   | [w0],_=>exact⟨w0,rfl⟩
  have IF:((#[26]:Array Tmp).zip #[w0]).foldl (λtmps (t,a)=>tmps.setIfInBounds t a) t1=t1.setIfInBounds 26 w0:=η;change aE Tryz.prog Q mn x (Frame.round L 28 (((#[26]:Array Tmp).zip #[w0]).foldl (λtmps (t,a)=>tmps.setIfInBounds t a) t1) _ _ .normal) _ _;rw[IF];have xP:au S B [n2,n3,dP l] (.ms 2 l.length 0 l.length) w0:=hv.2 0 _ _ rfl rfl;have OS:l.length<2 ^ 30:=γ;have vS:cX S B [n2,n3,dP l] ((26,.ms 2 l.length 0 l.length)::x0 s F n lower) (t1.setIfInBounds 26 w0):=rq (cX.put k0 (d:=26) (by rw[hK.size];omega) xP) η;refine V.here (b:=Frame.round L 28 t1 .skip .skip .normal) (t:=t1.setIfInBounds 26 w0) (m:=3) (nt:=35) (S:=S) (B:=B) (H:=H) (σ:=[n2,n3,dP l]) (env:=(26,.ms 2 l.length 0 l.length)::x0 s F n lower) ?_ ⟨χ,vS,Eq.trans (Array.size_setIfInBounds ..) hK.size,Nat.le_refl _⟩;refine V.eY U rfl ?_;refine Β ?_;refine W.stop ?_;intro jP jQ hJ t3 fW eG;obtain⟨qn,vW⟩:=iI fW.ext jk av;obtain⟨IG,IH⟩:=iI fW.ext vU qN;refine aE.beginRound U rfl rfl vW rfl ?_;refine V.here (b:=Frame.round L 28 t1 .skip .skip .normal) (m:=3) (nt:=35) ?_ ⟨eG.holds.aZ qn,eG.b5,eG.size,eG.rows⟩;refine V.eY U rfl ?_;refine a5 λΔ ζ=>?_;have cQ:aK 0 (dH s):=η;have rY:aK 0 (cj F):=η;have g2:jf (dP l):=nP (f:=λn:Nat=>J n) λx=>by simp[θ.cells]
  refine ak.one (as0:=[dH s,cj F,J n,bs lower,.ms 0 l.length 0 l.length]) (W1 s μ F c5 n bA lower l (Nat.le_trans OR El) aI) 2 rfl g2 g2 (λa κ=>by
   simp only[List.mem_cons,List.not_mem_nil,or_false] at κ;rcases κ with rfl|rfl|rfl|rfl|rfl
   ·exact cQ.kh 1
   ·exact rY.kh 1
   ·exact(aK.z _).kh 1
   ·exact(aK.z _).kh 1
   ·exact jL.2 γ) ((aK.z _).kh 1) (by simp[jM,nO,cQ.dO [2],rY.dO [2]]) ?_
  simp[nO];(repeat (rw[ae];simp[]));apply ζ;have vX:bQ S jP B jQ [n2,n3,dP l] [n2,n3,dP l]:=fW.all χ (Nat.le_refl _);have II:=λy=>(κ.ext.trans fW.ext).aZ R (y:=y) ⟨_,vW⟩;have IJ:=λy=>(vV.trans fW.ext).aZ sO (y:=y) ⟨_,vW⟩;cases OT:q' s F n lower l
  ·refine ay rfl ?_
   repeat apply al
   refine W.stop ?_;intro gm gN fE t5 fN g9;obtain⟨qo,qp⟩:=iI fN.ext qn (show(hJ.aZ L _).obj L=some (.loop _) by simp[π.aZ];rfl);have sR:=fN.all (eG.holds.aZ qn) (Nat.le_refl _);refine aE.endRound U rfl rfl rfl qp (jump:=none) (.inl ⟨rfl,rfl⟩) (IC (by rw[sQ,List.find?_cons,OT]) gm gN _ ⟨((II _).trans fN.ext).aZ R ⟨_,qp⟩,?_⟩ (vX.trans sR) (g9.holds.aZ qo) qo (by simp[π.aZ]));exact κ.later.trans (vX.trans sR)
  ·refine aA rfl ?_;obtain⟨z,Μ⟩:=aO (l.map λn:Nat=>(n:Int));have IK:dP l=.cells 3 1 (z.map J):=by rw[Μ,List.map_map];rfl
   have m5:z.length=l.length:=by rw[Μ,List.length_map]
   have OU:=WU z (by rw[m5];exact OS);rw[m5,<-IK] at OU;have OV:∀(e:Bool) (k:Nat),aK 0 (.sl e k (z.map J)):=λe k=>η;refine a5 λΔ ζ=>?_;refine ak.Hk (as0:=[.ms 0 l.length 0 l.length]) OU 2 rfl g2 (by simp[jL]) (by simp[jM]) (λa bq ao=>?_);obtain⟨⟨e,kk,rfl,tn⟩,rfl⟩:=ao;refine⟨dP l,rfl,g2,(OV e kk).kh 1,?_⟩;rw[(OV e kk).dO [2]];simp;(repeat (rw[ae];simp[]));apply ζ;refine W.stop ?_;intro gm gN fE t5 fN g9;obtain⟨qo,qp⟩:=iI fN.ext qn (show(hJ.aZ L _).obj L=some (.loop _) by simp[π.aZ];rfl);obtain⟨En,IL⟩:=iI fN.ext IG (show(hJ.aZ L _).obj r1=some (.deferred (some [])) by simp[π.aZ,sP,IH]);have sR:=fN.all (eG.holds.aZ qn) (Nat.le_refl _);refine aE.endRound U rfl rfl rfl qp (jump:=some .ret) (.inr (.inl ⟨rfl,_,rfl⟩)) (ID _ λZr OW AI=>?_);obtain⟨dh,c6⟩:=(g9.holds.aZ (y:=.loop _) qo).pA (λb hb=>AI.pA hb) AI.grow;obtain⟨IM,AJ⟩:=iI c6 qo (show(fE.aZ L _).obj L=some (.loop _) by simp[π.aZ];rfl);obtain⟨_,IN⟩:=iI c6 En (show(fE.aZ L _).obj r1=some (.deferred (some [])) by simp[π.aZ,sP,IL]);refine aE.DI (b:={Iu vs with defers:=[⟨.collected r1,#[]⟩]}) (t:=t1) U rfl AJ η ?_;refine aE.ret (b:={Iu vs with defers:=[⟨.collected r1,#[]⟩]}) U rfl rfl ?_;refine AG _ gm gN _ _ (x0 s F n lower) z 0 e kk rfl rfl rfl rfl ((((((IJ _).trans fN.ext).aZ sO ⟨_,qp⟩)).trans c6).aZ sO ⟨_,AJ⟩) (dh.aZ IM) En (by simp[π.aZ,sP,IN]) (rq ((k0.later (vX.trans sR))) η) rfl rfl rfl rfl ?_ tn;rw[Θ,sQ,List.find?_cons,OT,Μ]
 ·obtain⟨vU,qN⟩:=iI κ.ext vT qm;have k0:=hK.b5.later (AF _ _ _ _ κ);have oC:Ext eg [] di S B H:=lL.ext.trans (sN.trans κ.ext);refine aE.DI (b:={Iu vs with defers:=[⟨.collected r1,#[]⟩]}) (t:=t1) U rfl av η ?_;refine V.here (m:=0) (nt:=35) (S:=S) (B:=B) (σ:=[n2,n3]) (env:=x0 s F n lower) ?_ ⟨χ.aZ jk,rq k0 η,hK.size,Nat.zero_le _⟩;refine V.eY U rfl ?_;simp only[Option.map_none,Option.toList_none,List.nil_append];refine Β ?_;refine W.stop ?_;intro gm gN fE t5 fN g9;have IP:∀y,(H.aZ L y).obj r1=some (.deferred (some [])):=λy=>by simp[π.aZ,sP,qN]
  obtain⟨k1,bG⟩:=iI fN.ext vU (IP _);refine aE.ret U rfl rfl ?_;refine AG _ gm gN fE _ _ [] 11 true 0 rfl rfl rfl rfl ((oC.aZ sO ⟨_,av⟩).trans fN.ext) g9.holds k1 bG g9.b5 rfl rfl rfl rfl ?_ (λh=>absurd rfl h);rw[Θ,sQ];rfl
end
end Go.TL
namespace Go.TL
open Go.Proofs
variable [bj]
def aQ:aL:=⟨[⟨⟨#[98]⟩,9⟩,⟨⟨#[99]⟩,4⟩,⟨⟨#[100]⟩,6⟩,⟨⟨#[105]⟩,48⟩,⟨⟨#[111]⟩,12⟩],[[1,2],[0],[0,1,2]],[[⟨0,4,59⟩,⟨1,8,3⟩],[⟨0,0,63⟩,⟨1,4,8⟩]]⟩
theorem x1:Ω Tryz.prog 72 [] (dH aQ):=by
 refine ak.body Ρ Tryz.func72 rfl rfl Tryz.ntmps72 rfl rfl η ?_
 repeat apply al
 refine cR (A:=[0]) Ρ λΔ ζ=>aV ?_;apply ζ
 repeat apply al
 refine a5 λΔ ζ=>?_;apply ζ;refine W.fix (id:=0) (σ':=[]) (Nat.zero_le _) rfl η η rfl [(0,.aa [.sl true 2 [hI ⟨⟨#[98]⟩,9⟩,hI ⟨⟨#[99]⟩,4⟩,hI ⟨⟨#[100]⟩,6⟩,hI ⟨⟨#[105]⟩,48⟩,hI ⟨⟨#[111]⟩,12⟩],.sl true 1 [cE [1,2],cE [0],cE [0,1,2]],.sl true 1 [.sl true 3 [cA ⟨0,4,59⟩,cA ⟨1,8,3⟩],.sl true 3 [cA ⟨0,0,63⟩,cA ⟨1,4,8⟩]]])] η ?_;refine W.rt ?_;refine .a6 (.cons .ex (.cons ?_ (.cons ?_ .nil)))
 ·exact .map (l:=[[1,2],[0],[0,1,2]]) (f:=cE) λx _=>.one .ex rfl rfl
 ·exact .map (l:=[[⟨0,4,59⟩,⟨1,8,3⟩],[⟨0,0,63⟩,⟨1,4,8⟩]]) (f:=λl:List cG=>.sl true 3 (l.map cA)) λx _=>.one .ex rfl rfl
end Go.TL
namespace Go.TL
open Go.Conc Go.Proofs
open Go.ConcN (sumTo upd sumTo_upd upd_ne upd_same sumTo_congr le_sumTo)
variable [bj]
section
variable {P:Program} {Q:Value->Prop} {mn:Bool} {y:aW} {f f' b:Frame} {cs cs':List Frame} {H:π} {t:Array Value} {k:List Item} {ops:Array Oper} {i:Nat} {rest:List Nat} {op:Oper}
theorem cm.quiet (U:eZ y) (μ:∀w,stepG P mn (Go.Conc.G f cs) w=.go (Go.Conc.G f' cs') w #[]) (h:cm P Q mn y f' cs' H):cm P Q mn y f cs H:=
 Quiet.goes (.cons ⟨rfl,rfl⟩ μ (.nil _)) U ⟨rfl,rfl⟩ h
theorem cm.next (U:eZ y) (hb:b.mode=.run) {id:Nat} {IQ:Array Oper} {c:Code} (h:cm P Q mn y (ax b t (.inRegion IQ (List.range IQ.size)::.code c::k)) cs H):cm P Q mn y (ax b t (.inRegion ops []::.code (.seq (.region id IQ false) c)::k)) cs H:=
 .quiet U (λw=>(iW hb w).trans rfl) (.quiet U (λw=>(iW hb w).trans rfl) (.quiet U (λw=>(iW hb w).trans rfl) h))
theorem Zs {ty:TypeId} {inf:TypeInfo} {z:Value} (hi:P.info? ty=some inf) (Μ:inf.zero=some z) (w:World) :
  (Instr.alloc ty true (.tuple #[])).run P w=.ok (ptr w.heap.size 0) (w.alloc (.cells z.cells ty (0,0)))/\∀es,(Instr.alloc ty true (.tuple #[])).events P w es=es:=by
 constructor
 ·simp[Instr.alloc,zeroValue,typeInfo,newVar,newRow,hi,Μ,Result.andThen]
 ·intro es;simp[Instr.alloc,zeroValue,typeInfo,newVar,newRow,hi,Μ,Result.andThen,Result.evThen]
theorem cm.IS {ty:TypeId} {inf:TypeInfo} {z:Value} (ee:y.rel=false) (bR:mC b ops i op) (Κ:op.op=.alloc ty) (Ο:op.guard=none) (hi:P.info? ty=some inf) (Μ:inf.zero=some z)
  (h:∀r,H.fresh r->(∀Ψ v,y.aG Ψ=some v->Ψ<r)->cm P Q mn {y with aG:=upd y.aG r (some (z.cells,ty))} (ax b (put op t (ptr r 0)) (.inRegion ops rest::k)) cs H):cm P Q mn y (ax b t (.inRegion ops (i::rest)::k)) cs H:=by
 refine Goes.step (eZ.ok (.inl ee)) (.inr ⟨⟨rfl,rfl⟩,.inl λw Υ hv=>?_⟩);obtain⟨r1,r2⟩:=Zs (P:=P) hi Μ w;have hw:Region.wanted op (yielded ops t)=true:=by unfold Region.wanted;rw[Ο]
 have y2:stepG P mn (Go.Conc.G (ax b t (.inRegion ops (i::rest)::k)) cs) w=.go (Go.Conc.G (ax b (put op t (ptr w.heap.size 0)) (.inRegion ops rest::k)) cs) (w.alloc (.cells z.cells ty (0,0))) #[]:=by
  have e:execOp (br t) op=(do pure (.value (<-Instr.alloc ty true (.tuple #[])))):=by unfold execOp;rw[Κ]
  rw[gB bR.run bR.ro,gB bR.run bR.ro,<-tL];have ι:(execOp (⟨t,b.defers⟩:_root_.Go.Act).eval op).run P w=.ok (.value (ptr w.heap.size 0)) (w.alloc (.cells z.cells ty (0,0))):=by rw[lQ,e];simp[r1,Result.andThen]
  have he:(execOp (⟨t,b.defers⟩:_root_.Go.Act).eval op).events P w #[]=#[]:=by rw[lQ,e];simp[r1,r2,Result.evThen]
  rw[stepG_value bR.op hw bR.kd ι];unfold listed;rw[he,seen_none]
 rw[y2];have hu:=(dL.start Υ).row z.cells ty;have AK:π.fresh H w.heap.size:=Υ.fresh;have j1:Sub H (H.dz w.heap.size z.cells ty):=by
  refine⟨λΨ o v p hb=>⟨p,?_,id⟩,λΨ x hb=>?_,λΨ x hb=>hb⟩
  ·have:Ψ≠w.heap.size:=λe=>by rw[e,AK.1 o] at hb;cases hb
   simpa[π.dz,this] using hb
  ·have:Ψ≠w.heap.size:=λe=>by rw[e,AK.2.1] at hb;cases hb
   simpa[π.dz,this] using hb
 have aI:∀Ψ v,y.aG Ψ=some v->Ψ<w.heap.size:=λΨ v hb=>by
  have:=hv Ψ v.1 v.2 hb;exact(Array.getElem?_eq_some_iff.1 this).1
 refine⟨H,upd y.aG w.heap.size (some (z.cells,ty)),⟨rfl,rfl⟩,hu.keeps,j1.fits hu.fit,λΨ c' t' hb=>?_,⟨λΨ o v p hb=>.inr ⟨v,p,hb,id⟩,λΨ hb=>.inr hb⟩,λΨ c' hb=>?_,λe he=>by simp at he,λΨ c' _ _ e he=>by simp at he,h _ AK aI⟩
 ·by_cases e:Ψ=w.heap.size
  ·subst e;rw[upd_same] at hb;cases hb;exact BZ
  ·rw[upd_ne _ _ e] at hb;have I:=hv Ψ c' t' hb;have R:=aI Ψ _ hb;show(w.heap.push _)[Ψ]?=_;rw[Array.getElem?_push_lt R];rw[gF R] at I;exact I
 ·by_cases e:Ψ=w.heap.size
  ·exact .inr ⟨Nat.le_of_eq e.symm,⟨λo ⟨x,U⟩=>(by rw[e,AK.1 o] at U;cases U),λ⟨x,U⟩=>(by rw[e,AK.2.2.1] at U;cases U)⟩⟩
  ·rw[upd_ne _ _ e] at hb;exact .inl hb
theorem Zt {B:Type} {s:Nat}:upd (λ_=>(none:Option B)) s none=λ_=>none:=by
 funext i
 by_cases e:i=s
 ·subst e;exact upd_same ..
 ·exact upd_ne _ _ e
theorem cm.group {sp:Spec} {s m o:Nat} {ty IT AL:TypeId} {c:Array Value} (ee:y.rel=false) (fI:y.aG=λ_=>none) (uV:m<s) (IU:s<o) (fr:sp.aU=some m) (xa:H.fresh o) (dy:sp.bb [] (π.empty.dz o c AL))
  (h:cm P Q mn {y with tok:=upd y.tok s (.par 0 0 .add),spec:=upd y.spec s (some sp),view:=upd y.view s none} f cs H) :
  cm P Q mn {y with aG:=upd (upd (upd y.aG m (some (#[.int .i32 0,.int .u32 0],IT))) s (some (#[.int .u64 0,.int .u32 0],ty))) o (some (c,AL))} f cs H:=by
 have iR:s≠o:=Nat.ne_of_lt IU
 have fT:m≠o:=γ
 have BP:m≠s:=Nat.ne_of_lt uV;refine Goes.step (eZ.ok (.inl ee)) (.inr ⟨⟨rfl,rfl⟩,.inr (.inr (.inr (.inr (.inr (.inr (.inr (.inr (.inr (.inr (.inl ⟨o,c,AL,upd_same ..,?_⟩))))))))))⟩);refine Goes.step (eZ.ok (.inl ee)) (.inr ⟨⟨rfl,rfl⟩,.inr (.inr (.inr (.inr (.inr (.inr (.inr (.inr (.inr (.inr (.inr ⟨s,sp,ty,H,π.empty.dz o c AL,?_,λb1 dg=>?_,ee,?_,λ_=>dy,?_⟩))))))))))⟩)
 ·show upd (upd _ o _) o none s=_;rw[upd_ne _ _ iR,upd_ne _ _ iR,upd_same]
 ·rw[fr] at dg;cases dg;refine⟨BP,IT,?_⟩;show upd (upd _ o _) o none m=_;rw[upd_ne _ _ fT,upd_ne _ _ fT,upd_ne _ _ BP,upd_same]
 ·refine⟨⟨λΨ q v p hb=>⟨p,?_,id⟩,λΨ x hb=>?_,λΨ x hb=>hb⟩,⟨λΨ q v p hb=>⟨p,?_,id⟩,λΨ x hb=>?_,λΨ x hb=>(by cases hb)⟩,⟨λΨ q ⟨v,hv⟩ ⟨x,U⟩=>?_,λΨ q ⟨v,hv⟩ ⟨x,U⟩=>?_,λΨ _ ⟨x,U⟩=>(by cases U)⟩⟩
  ·have:Ψ≠o:=λe=>by rw[e,xa.1 q] at hb;cases hb
   simpa[this] using hb
  ·have:Ψ≠o:=λe=>by rw[e,xa.2.1] at hb;cases hb
   simpa[this] using hb
  ·by_cases e:Ψ=o
   ·simpa[π.dz,e] using hb
   ·simp[π.dz,e,π.empty] at hb
  ·by_cases e:Ψ=o
   ·simpa[π.dz,e] using hb
   ·simp[π.dz,e,π.empty] at hb
  ·by_cases e:Ψ=o
   ·rw[e,xa.1 q] at hv;cases hv
   ·simp[π.dz,e,π.empty] at U
  ·by_cases e:Ψ=o
   ·rw[e,xa.1 q] at U;cases U
   ·simp[π.dz,e,π.empty] at hv
 ·have e:(λΨ=>if Ψ=s\/sp.aU=some Ψ then none else upd (upd (upd (upd y.aG m (some (#[.int .i32 0,.int .u32 0],IT))) s (some (#[.int .u64 0,.int .u32 0],ty))) o (some (c,AL))) o none Ψ)=y.aG:=by
   funext Ψ
   rw[fI];by_cases Γ:Ψ=s\/sp.aU=some Ψ
   ·rw[if_pos Γ]
   ·rw[if_neg Γ];rw[fr] at Γ;have Θ:Ψ≠s:=λe=>Γ (.inl e);have bO:Ψ≠m:=λe=>Γ (.inr (by rw[e]));by_cases cF:Ψ=o
    ·rw[cF,upd_same]
    ·rw[upd_ne _ _ cF,upd_ne _ _ cF,upd_ne _ _ Θ,upd_ne _ _ bO]
  have c9:Goes P Q mn (Go.Conc.G f cs) {y with G:=H,aG:=y.aG,tok:=upd y.tok s (.par 0 0 .add),spec:=upd y.spec s (some sp),view:=upd y.view s none}:=h;rw[<-e] at c9;exact c9
theorem cm.FO {s n p:Nat} {sp:Spec} {g:FuncId} {k3:Array Value} (ee:y.rel=false) (th:y.deaf=0) (b2:y.spec s=some sp) (Ν:y.tok s=.par n (p+1) .add) (bR:mC b ops i op) (Ο:op.guard=none) {fo:Operand} {ej:Array TypeId} (Κ:op.op=.go ⟨.value fo,#[],ej⟩) (q2:op.dst=none)
  (hv:br t fo=.func (.func g) #[] k3) {S:aD} (χ:Holds S [] [] H) (I:cm P Q mn {y with tok:=upd y.tok s (.par n p .add),view:=upd y.view s none} (ax b t (.inRegion ops rest::k)) cs (rn S H))
  (R:Goes P Q false (born P ⟨.fn (.func g) k3,#[]⟩) {bw (lT s sp) s (.ch (n-(p+1)) .idle .work) none 0 with G:=mL S}):cm P Q mn y (ax b t (.inRegion ops (i::rest)::k)) cs H:=by
 have hw:Region.wanted op (yielded ops t)=true:=by unfold Region.wanted;rw[Ο]
 have y2:∀w,stepG P mn (Go.Conc.G (ax b t (.inRegion ops (i::rest)::k)) cs) w=.spawn (Go.Conc.G (ax b t (.inRegion ops rest::k)) cs) (born P ⟨.fn (.func g) k3,#[]⟩) w #[]:=λw=>by
  have e:execOp (br t) op=(do pure (.spawn (<-Deferred.ofValue (br t fo) (#[].map (br t))))):=by unfold execOp;rw[Κ];rfl
  rw[gB bR.run bR.ro,gB bR.run bR.ro];have ι:(execOp (⟨t,b.defers⟩:_root_.Go.Act).eval op).run P w=.ok (.spawn ⟨.fn (.func g) k3,#[]⟩) w:=by rw[lQ,e,hv];simp[Deferred.ofValue,Result.andThen]
  have he:(execOp (⟨t,b.defers⟩:_root_.Go.Act).eval op).events P w #[]=#[]:=by rw[lQ,e,hv];simp[Deferred.ofValue,Result.andThen,Result.evThen]
  rw[stepG_spawn (a:=⟨t,b.defers⟩) bR.op hw bR.kd ι rfl];have:(⟨t,b.defers⟩:_root_.Go.Act).put op.dst undef=⟨t,b.defers⟩:=by rw[q2];rfl
  rw[this];unfold listed;rw[he,seen_none]
 refine Goes.step (eZ.ok (.inl ee)) (.inr ⟨⟨rfl,rfl⟩,.inr (.inr (.inr (.inr (.inr (.inr (.inr (.inr (.inl ⟨s,sp,n,p,Go.Conc.G (ax b t (.inRegion ops rest::k)) cs,born P ⟨.fn (.func g) k3,#[]⟩,rn S H,mL S,b2,Ν,th,⟨rfl,rfl⟩,⟨rfl,rfl⟩,ee,λw _=>y2 w,YG χ,I,?_⟩))))))))⟩);have e:({bw (lT s sp) s (.ch (n-(p+1)) .idle .work) none 0 with G:=mL S}:aW)=⟨mL S,λ_=>none,upd (λ_=>.nil) s (.ch (n-(p+1)) .idle .work),upd (λ_=>none) s (some sp),λ_=>none,0,false⟩:=by
  unfold bw;simp only[Zt]
 rw[<-e];exact R
end
end Go.TL
namespace Go.TL
open Go.Conc Go.Proofs
open Go.ConcN (sumTo upd sumTo_upd upd_ne upd_same sumTo_congr le_sumTo)
noncomputable def x2:Code:=Tryz.f116.body.getD .skip
noncomputable def OX:Code:=dI [1,1,1,1,0,1,0,0,1,1,0,0,1,1,0,0,1,1,0,0,1] x2
noncomputable abbrev Eo (vs:Array Value):Frame:=Frame.enter Tryz.prog 116 vs .normal
abbrev env0 (s m o:Nat) (d':aL) (rest:ab):ab:=(5,.z (ptr o 0))::(4,.z (ptr s 0))::(3,.z (ptr m 0))::(1,.aa [aS d'.Τ,aY d'.ai,a7 d'.cells])::rest
abbrev x3 (s m o:Nat) (d':aL) (a b:Int) (rest:ab):ab:=(7,.aa [J b])::(6,.aa [J a])::env0 s m o d' rest
structure Ep (d':aL) (fd:Nat->Option Found) (pr:Nat->Int×Int) (F:Nat->Found) (N:Nat->Nat):Prop where
 look:∀k,k<3->∀c:bj,@Ω c Tryz.prog 143 [dH d',aC (pr k)] (dd (F k))
 many:∀k,k<3->∀c:bj,@Ω c Tryz.prog 78 [dd (F k),J (-1)] (J (N k))
 fd:∀k,fd k=if k<3/\0<N k then some (F k) else none
theorem Ep.mA {d':aL} {fd:Nat->Option Found} {pr:Nat->Int×Int} {F:Nat->Found} {N:Nat->Nat} (h:Ep d' fd pr F N) (L:List Nat) (Ε:L.Nodup):(L.filterMap fd).length<=3:=by
 have I:L.filterMap fd=(L.filter (· < 3)).filterMap fd:=by
  rw[List.filterMap_filter];congr 1
  funext k
  by_cases e:k<3
  ·simp[e]
  ·simp[e,h.fd k]
 rw[I];refine Nat.le_trans (List.length_filterMap_le ..) ?_;have R:(L.filter (· < 3)).Nodup:=Ε.filter _;exact KW 3 _ R λk ψ=>by simpa using (List.mem_filter.1 ψ).2
variable [bj]
theorem V.boxed {P:Program} {Q:Value->Prop} {mn:Bool} {z:gJ} {b:Frame} {cs:List Frame} {nt:Nat} {o:Base} {k:List Item} {env:ab} {σ:List Row} {ops:Array Oper} {i:Nat} {rest:List Nat} {op:Oper}
  (U:Seq z) (hb:b.mode=.run) (cr:b.roundOf=none) (Α:ops[i]?=some op) (Ο:op.guard=none) {ty:TypeId} {vY:Operand} (Κ:op.op=.box ty vY) {l:List θ} (κ:aM env vY=.a6 l) (ei:l.all (θ.bd [])=true) (bC:0<l.length)
  (h:∀(S:aD) (B:aP) (H:π) (t:Array Value) (r:Nat) (c:Array Value),eO o.m o.S o.B o.H o.σ S B H σ->fi o.m nt S B H σ env t->H.fresh r->(∃v,(S.lay r c) r 0=some v)->bQ S (S.lay r c) B B σ σ->Ext S B H (S.lay r c) B (H.dz r c ty)->Holds (S.lay r c) B σ (H.dz r c ty)->au (S.lay r c) B σ (.aa l) (ptr r 0)->
   aE P Q mn z (ax b (put op t (ptr r 0)) (.inRegion ops rest::k)) cs (H.dz r c ty)):V P Q mn z b cs nt o (.inRegion ops (i::rest)::k) env σ:=by
 intro S B H t Zu ς;refine .op U hb Α (by unfold Region.wanted;rw[Ο]) (.inl cr) ?_;have e:execOp (br t) op=(do pure (.value (<-Instr.box ty (br t vY)))):=by unfold execOp;rw[Κ]
 have ι:=lB ς.b5 vY;rw[κ] at ι;rw[e];refine ξ.bind' ?_;unfold Instr.box;refine ξ.bind' ?_;unfold newVar newRow;have OY:=wW (σ:=σ) ei;have cC:=(ι.cells (a:=.a6 l) OY).1;refine ξ.bind' ⟨rfl,λr fh=>ξ.pure' (ξ.pure' (ξ.pure' ?_))⟩;obtain⟨I,R,ν⟩:=ς.holds.lay (c:=(br t vY).cells) (t:=ty) fh;have aI:0<(br t vY).cells.size:=by rw[cC];exact bC
 exact h S B H t r _ Zu ς fh ⟨(br t vY).cells[0],by simp[aD.lay,aI]⟩ ν R I (LI ν (fK.one ι OY))
section
variable {y:aW} {Q:Value->Prop} {mn:Bool} {β s m o n:Nat} {bz:aD} {H1:π} {fd:Nat->Option Found} {pr:Nat->Int×Int} {F:Nat->Found} {N:Nat->Nat} {sp:Spec} {d':aL} {v:Option (Nat×aN)} {vs:Array Value} {cs:List Frame} {k:List Item} {rest:ab}
theorem IV {a b:Int} (hk:pr n=(a,b)) (ε:lS y s sp) (fr:sp.aU=some m) (dy:sp.bb=vP β bz o fd) (fz:∀k,sp.D k π.empty) (gC:sp.top=3) (Ε:n<3) (dW:Ep d' fd pr F N) (lL:∃q v,bz β q=some v) (q6:∃q x,H1.aJ β q=some x) (ι:∀p∈rest,p.1∉[16,15,7,6,5,4,3,1]/\bc rest p.1=p.2)
  (ψ:V Tryz.prog Q mn (one (bw y s (.par (n+1) 0 .add) none 0)) (Eo vs) cs 23 ⟨bz,[],H1,[],0⟩ k ((6,.aa [J a])::env0 s m o d' rest) []) :
  V Tryz.prog Q mn (one (bw y s (.par n 0 .add) v 0)) (Eo vs) cs 23 ⟨bz,[],H1,[],0⟩ (.code OX::k) (x3 s m o d' a b rest) []:=by
 letI:bj:=eP;obtain rfl:a=(pr n).1:=by rw[hk]
 obtain rfl:b=(pr n).2:=by rw[hk]
 have U:=ε.seq;refine V.eY (U _ _ _) rfl ?_;simp only[OX,x2,Tryz.f116,Option.getD_some,dI];refine cI ?_;refine W.cn (.stop ?_);refine V.call (U _ _ _) ⟨rfl,rfl,by simp[Frame.enter],rfl⟩ rfl rfl rfl ⟨_,Tryz.func140,rfl,rfl⟩ λS B H t oZ κ ς hv=>?_;obtain rfl:=mD (l:=[ptr s 0,.int .i64 1]) hv;obtain rfl:B=[]:=dB.1 ς.holds.len;rintro lF rfl;refine X' ε γ ς.holds λv2 cL bH oP iU=>?_;rw[ie rfl];have mr:bQ S cL [] [] [] []:=⟨oP.dc,λid r h=>by simp at h⟩;refine V.here (x:=one _) (m:=0) (nt:=23) (S:=cL) (B:=[]) (σ:=[]) (env:=(15,.z (.tuple #[]))::x3 s m o d' (pr n).1 (pr n).2 rest) ?_ ⟨iU,cX.later (cX.put ς.b5 (d:=15) (by rw[ς.size];omega) (.z (.tuple #[]))) mr,Eq.trans (Array.size_setIfInBounds ..) ς.size,Nat.zero_le _⟩ _ rfl;refine V.eY (U _ _ _) rfl ?_;refine W.bJ ?_;refine W.cn ?_;refine fp [0] [1] ?_;refine W.stop ?_;intro jP jQ hJ t3 fW eG;obtain rfl:jQ=[]:=dB.1 eG.holds.len;rintro lF rfl;have bu:=eG.b5 16;simp only[bc,if_true] at bu;obtain⟨ag,tW⟩:=aO (t3.getD 16 undef);rw[<-tW] at bu;have IW:eO 0 bz [] H1 [] jP [] hJ []:=κ.trans ((eO.of oP mr).trans fW);cases bu with
 | fn w1 w2 Ξ ah aR ca=>
  have Γ:w1=#[]:=Array.eq_empty_of_size_eq_zero (by rw[<-Ξ];rfl);subst Γ;obtain⟨l2⟩:=w2
  match l2,ah with
  | [OZ,y6,pz,B5,x4,Zv],_=>
   have tT:OZ=ptr s 0:=by have:=ca 0 _ _ rfl rfl;cases this;rfl
   have Zw:x4=ptr m 0:=by have:=ca 4 _ _ rfl rfl;cases this;rfl
   have Zx:Zv=ptr o 0:=by have:=ca 5 _ _ rfl rfl;cases this;rfl
   subst tT;subst Zw;subst Zx;have Iq:fj jP [] [] (Il s m o d' (pr n).1 (pr n).2) (Ef s m o y6 pz B5):=⟨rfl,λi a v I R=>ca i a v I R⟩;refine cm.FO (s:=s) (n:=n+1) (p:=0) (sp:=sp) ε.rel rfl ε.spec b4 ⟨rfl,rfl,by simp[Frame.enter],rfl⟩ rfl rfl rfl tW.symm (S:=jP) eG.holds ?_ ?_
   ·rw[gR];have μ:=YJ eG.holds;have Zy:∀g:θ,∀p∈(6,.aa [J (pr n).1])::env0 s m o d' rest,bc ((16,g)::(15,.z (.tuple #[]))::x3 s m o d' (pr n).1 (pr n).2 rest) p.1=p.2:=λg p ς=>by
     simp only[env0,List.mem_cons] at ς;rcases ς with rfl|rfl|rfl|rfl|rfl|ς<;>first|rfl|skip
     obtain⟨I,R⟩:=ι p ς;simp only[List.mem_cons,List.not_mem_nil,or_false,not_or] at I;obtain⟨c1,c2,c3,c4,jJ,mf,lE,Zz⟩:=I;simp only[bc,Ne.symm c1,Ne.symm c2,Ne.symm c3,Ne.symm c4,Ne.symm jJ,Ne.symm mf,Ne.symm lE,Ne.symm Zz,if_false];exact R
    refine V.eY (U (.par (n+1) 0 .add) none 0) rfl (W.bJ (W.forget ((6,.aa [J (pr n).1])::env0 s m o d' rest) (Zy _) (.stop ψ))) jP [] _ t3 (IW.trans (eO.of μ (bQ.refl ..))) ⟨YH eG.holds,eG.b5,eG.size,Nat.zero_le _⟩ _ rfl
   ·refine YY fr γ dy (fz _) (dW.look n Ε) (dW.many n Ε) ?_ (λL av=>?_) ?_ (λb q u hu=>?_) Iq
    ·show fd n=_;rw[dW.fd n];simp[Ε]
    ·rw[List.length_map];have:=dW.mA L av;omega
    ·obtain⟨q,u,hu⟩:=lL;exact⟨q,u,IW.ext.dc _ _ _ hu⟩
    ·obtain⟨ic,OZ,xZ⟩:=q6;rcases IW.ext.qQ b q u hu with h|⟨N,h⟩|h
     ·exact .inl (by rw[h];simp)
     ·simp at h
     ·exact .inr (Ii xZ h)
end
end Go.TL
