import Derived.Conc.Own2
import Derived.Test.YtlabjopijpkiaaaGreatCAR
import Derived.Test.YtlabjopijpkiaaaGreatCAS
import Derived.Test.YtlabjopijpkiaaaGreatCAT
import Derived.Test.YtlabjopijpkiaaaGreatCAW
set_option maxHeartbeats 16000000
set_option maxRecDepth 20000
set_option linter.unusedSectionVars false
set_option linter.unusedSimpArgs false
set_option linter.unusedVariables false
namespace Go.TL
open Go.Conc
open Go.ConcN (upd)
def se (S:aL) (H:Α):Α:={H with aP:=λb o=>match S b o with|some v=>some (v,false)|none=>H.aP b o}
def nu (S:aL):Α:=⟨λb o=>(S b o).map (·,false),λ_=>none,λ_=>none⟩
def aL.plus (S T:aL):aL:=λb o=>match S b o with|some v=>some v|none=>T b o
structure n8 (β:Nat) (bM:aL) (E:Α):Prop where
 aP:∀b o x,E.aP b o=some x->bM b o≠none\/β<b
 row:∀b x,E.row b=some x->β<b
 obj:∀b x,E.obj b=some x->β<b
def yS (r:Row):Prop:=∃t k l,r=.cells t k l
section
variable {S aF h1 fu bM:aL} {B B':aW} {σ σ':List Row} {H H' ei E G:Α} {β:Nat}
theorem Bt {b o:Nat} {v:Value} (h:S b o=some v):(se S H).aP b o=some (v,false):=by simp only[se,h]
theorem I' {b o:Nat} (h:S b o=none):(se S H).aP b o=H.aP b o:=by simp only[se,h]
theorem Ja {b o:Nat} {v:Value} (h:S b o=some v):(nu S).aP b o=some (v,false):=by simp only[nu,h];rfl
theorem Fh {b o:Nat} {x:Value×Bool} (h:(nu S).aP b o=some x):∃v,S b o=some v/\x=(v,false):=by
 cases ν:S b o with
 | none=>simp[nu,ν] at h
 | some v=>exact⟨v,rfl,by simp[nu,ν] at h;exact h.symm⟩
theorem Bu {b o:Nat} {v:Value} (h:S b o=some v):S.plus h1 b o=some v:=by simp only[aL.plus,h]
theorem Fi {b o:Nat} (h:S b o=none):S.plus h1 b o=h1 b o:=by simp only[aL.plus,h]
theorem join_some {b o:Nat} {x:Value×Bool} (h:H.aP b o=some x):(join H E).aP b o=some x:=by simp only[join,h]
theorem join_none {b o:Nat} (h:H.aP b o=none):(join H E).aP b o=E.aP b o:=by simp only[join,h]
theorem ZS {b:Nat} {x:TypeId×Nat} (h:(join H E).row b=some x):H.row b=some x\/E.row b=some x:=by
 cases ι:H.row b with
 | none=>simp only[join,ι] at h;exact .inr h
 | some y=>simp only[join,ι] at h;exact .inl h
theorem ZT {b:Nat} {x:Obj} (h:(join H E).obj b=some x):H.obj b=some x\/E.obj b=some x:=by
 cases ι:H.obj b with
 | none=>simp only[join,ι] at h;exact .inr h
 | some y=>simp only[join,ι] at h;exact .inl h
theorem ZU (Β:Holds S [] [] H):Split H (se S H) (nu S):=by
 refine⟨⟨λb o v p h=>?_,λb x h=>h,λb x h=>h⟩,⟨λb o v p h=>?_,λb x h=>(by cases h),λb x h=>(by cases h)⟩,⟨λb o ⟨v,h⟩ ⟨x,k⟩=>?_,λb o ⟨v,h⟩ _=>?_,λb _ ⟨x,h⟩=>(by cases h)⟩⟩
 ·cases ν:S b o with
  | some u=>
   rw[Bt ν] at h;cases h;obtain⟨fL,π⟩:=Β.dm b o _ ν;exact⟨fL,π,λe=>by cases e⟩
  | none=>rw[I' ν] at h;exact⟨p,h,id⟩
 ·obtain⟨u,ν,e⟩:=Fh h;cases e;obtain⟨fL,π⟩:=Β.dm b o _ ν;exact⟨fL,π,λe=>by cases e⟩
 ·obtain⟨u,ν,e⟩:=Fh k;rw[Bt ν] at h;cases h
 ·obtain⟨u,ν,e⟩:=Fh h;cases e
theorem ZV (Β:Holds S [] [] H):Holds S [] [] (se S H):=
 ⟨λb o v h=>⟨false,Bt h⟩,rfl,λid r bo h=>by simp at h,λi j ew cj b gC gD _ h=>by simp at h,λid r b N h=>by simp at h⟩
theorem ZW:Holds S [] [] (nu S):=
 ⟨λb o v h=>⟨false,Ja h⟩,rfl,λid r bo h=>by simp at h,λi j ew cj b gC gD _ h=>by simp at h,λid r b N h=>by simp at h⟩
theorem ZX (Β:Holds S [] [] H):Ext S [] H S [] (se S H):=by
 refine⟨λ_ _ _ h=>h,λb _ _=>⟨λo=>?_,rfl,rfl⟩,λb h=>.inl h,λb o v h=>.inl h,λb h=>?_⟩
 ·cases ν:S b o with
  | none=>exact .inl (I' ν)
  | some v=>
   obtain⟨p,π⟩:=Β.dm b o v ν;exact .inr ⟨v,p,rfl,π,Bt ν⟩
 ·have key:∀b o,(se S H).aP b o=none->H.aP b o=none:=λb o h=>by
   cases ν:S b o with
   | none=>rw[I' ν] at h;exact h
   | some v=>rw[Bt ν] at h;cases h
  exact⟨λo=>key b o (h.1 o),h.2.1,h.2.2.1,λΨ hb=>⟨λo=>key Ψ o ((h.2.2.2 Ψ hb).1 o),(h.2.2.2 Ψ hb).2⟩⟩
theorem Holds.sR (Β:Holds S B σ H) (κ:∀b,¬H.fresh b->kY H H' b) (Ο:∀b,H'.fresh b->H.fresh b):Holds S B σ H'/\Ext S B H S B H':=by
 have C6:∀b o x,H.aP b o=some x->¬H.fresh b:=λb o x h Τ=>by rw[Τ.1 o] at h;cases h
 refine⟨⟨λb o v h=>?_,Β.len,λid r bo ι ey=>?_,Β.inj,Β.sep⟩,⟨λ_ _ _ h=>h,λb _ Τ=>nJ.of (κ b Τ),λb h=>.inl h,λb o v h=>.inl h,Ο⟩⟩
 ·obtain⟨p,π⟩:=Β.dm b o v h;exact⟨p,by rw[(κ b (C6 b o _ π)).1];exact π⟩
 ·by_cases fb:r.live
  ·refine(Β.row id r bo ι ey).later (b3.refl S B σ) (λb N e=>κ b (Β.ov ι fb (by rw[ey,e]))) λm left cur e=>?_;subst e;obtain⟨_,_,aZ,kX,xs,clock,seen,_,J,⟨es,U⟩,_⟩:=Β.row id _ bo ι ey;exact⟨rfl,rfl,λb N hb=>κ b (Β.ov U trivial hb)⟩
  ·cases r<;>first|exact absurd trivial fb|trivial
theorem Ext.sR (h:Ext fp [] H aF [] H') {b:Nat} (Τ:¬H.fresh b):kY H H' b:=(h.fV b (λ⟨N,x⟩=>by simp at x) Τ).sR λ_=>rfl
theorem Pk {w:World} (di:Fits H w) (dz:Fits E w) {b o:Nat} {u v:Value} {p q:Bool} (h:H.aP b o=some (u,p)) (k:E.aP b o=some (v,q)):u=v:=by
 have J:=di.aP b o u p h;rw[dz.aP b o v q k] at J;exact(Option.some.inj J).symm
theorem ZY {w:World} (di:Fits H w) (dz:Fits E w) (iA:Apart H E) {b N:Nat} {t:TypeId} (ι:E.row b=some (t,N)) (ψ:∀o,o<N->∃v,E.aP b o=some (v,true)):(∀o,H.aP b o=none)/\kY E (join H E) b:=by
 obtain⟨c,J,U⟩:=dz.row b t N ι;have Ζ:∀o,H.aP b o=none:=λo=>by
  cases γ:H.aP b o with
  | none=>rfl
  | some x=>
   have ε:=di.aP b o x.1 x.2 γ;by_cases aO:o<N
   ·exact absurd ⟨x,γ⟩ (iA.q8 b o (ψ o aO))
   ·simp only[World.cell?,J] at ε;simp[U,aO] at ε
 refine⟨Ζ,λo=>join_none (Ζ o),?_,?_⟩
 ·cases γ:H.row b with
  | none=>simp only[join,γ]
  | some x=>
   obtain⟨c',μ,Ε⟩:=di.row b x.1 x.2 γ;rw[J] at μ;cases μ;simp only[join,γ,ι];obtain⟨v9,kg⟩:=x
   simp_all
 ·cases γ:H.obj b with
  | none=>simp only[join,γ]
  | some x=>
   obtain⟨μ,Ε⟩:=di.obj b x γ;rw[J] at μ;cases μ;simp[Obj.sw] at Ε
theorem Pl (Β:Holds S [] [] H) (dz:Holds h1 B σ E) (iA:Apart H E) (hw:∃w,Fits H w/\Fits E w) (ml:∀r∈σ,yS r) :
  Holds (S.plus h1) B σ (join H E)/\b3 S (S.plus h1) [] B [] σ/\b3 h1 (S.plus h1) B B σ σ:=by
 obtain⟨w,di,ev⟩:=hw;have st:∀b o v,h1 b o=some v->S.plus h1 b o=some v:=λb o v h=>by
  cases ν:S b o with
  | none=>rw[Fi ν];exact h
  | some u=>
   obtain⟨p,π⟩:=Β.dm b o u ν;obtain⟨q,Ξ⟩:=dz.dm b o v h;rw[Bu ν,Pk di ev π Ξ]
 have l1:b3 S (S.plus h1) [] B [] σ:=⟨λb o v h=>Bu h,λid r h=>by simp at h⟩
 have l2:b3 h1 (S.plus h1) B B σ σ:=⟨st,λid r h=>⟨r,h,r.sO _⟩⟩
 have mine:∀(id:Nat) (r:Row) (b N:Nat),σ[id]?=some r->B[id]?=some (some (b,N))->(∀o,H.aP b o=none)/\kY E (join H E) b:=λid r b N ι hb=>by
  obtain⟨t,k,l,rfl⟩:=ml r (cG ι);obtain⟨Γ,_,Δ,_⟩:=dz.row id _ _ ι hb;exact ZY di ev iA Γ Δ
 refine⟨⟨λb o v h=>?_,dz.len,λid r bo ι ey=>?_,dz.inj,λid r b N ι fb ey o=>?_⟩,l1,l2⟩
 ·cases ν:S b o with
  | some u=>
   rw[Bu ν] at h;cases h;obtain⟨p,π⟩:=Β.dm b o _ ν;exact⟨p,join_some π⟩
  | none=>
   rw[Fi ν] at h;obtain⟨p,π⟩:=dz.dm b o v h;cases γ:H.aP b o with
   | none=>exact⟨p,by rw[join_none γ];exact π⟩
   | some x=>
    obtain⟨u,q⟩:=x;have:=Pk di ev γ π;subst this;exact⟨q,join_some γ⟩
 ·refine(dz.row id r bo ι ey).later l2 (λb N e=>(mine id r b N ι (by rw[ey,e])).2) λm left cur e=>?_;subst e;obtain⟨t,k,l,e⟩:=ml _ (cG ι);cases e
 ·have J:=(mine id r b N ι ey).1 o;cases ν:S b o with
  | some u=>
   obtain⟨p,π⟩:=Β.dm b o u ν;rw[J] at π;cases π
  | none=>rw[Fi ν];exact dz.sep id r b N ι fb ey o
theorem Jb {o:Nat} {x:Value×Bool} (κ:G.aP β o=some x) {b:Nat} (Τ:G.fresh b):β<b:=by
 by_cases e:β<b
 ·exact e
 ·rcases Nat.lt_or_ge b β with h|h
  ·have:=(Τ.2.2.2 β h).1 o;rw[κ] at this;cases this
  ·obtain rfl:β=b:=by omega
   rw[Τ.1 o] at κ;cases κ
theorem Jc {b:Nat} (Τ:G.fresh β) (h:β<b):G.fresh b:=
 ⟨(Τ.2.2.2 b h).1,(Τ.2.2.2 b h).2.1,(Τ.2.2.2 b h).2.2,λΨ dV=>Τ.2.2.2 Ψ (Nat.lt_trans h dV)⟩
theorem ZZ (gh:∀b o v,S b o=some v->bM b o≠none\/β<b):n8 β bM (nu S):=
 ⟨λb o x h=>let ⟨v,J,_⟩:=Fh h;gh b o v J,λb x h=>(by cases h),λb x h=>(by cases h)⟩
theorem n8.join (h:n8 β bM G) (k:n8 β bM E):n8 β bM (join G E):=by
 refine⟨λb o x γ=>?_,λb x γ=>(ZS γ).elim (h.row b x) (k.row b x),λb x γ=>(ZT γ).elim (h.obj b x) (k.obj b x)⟩;cases Ο:G.aP b o with
 | none=>rw[join_none Ο] at γ;exact k.aP b o x γ
 | some y=>exact h.aP b o y Ο
theorem n8.ext (h:n8 β bM G) {G':Α} (he:Ext S B G aF B' G') (dX:∀b,B.has b->β<b) {o:Nat} {x:Value×Bool} (κ:G.aP β o=some x):n8 β bM G':=by
 have key:∀b,¬β<b->nJ S G G' b:=λb hb=>he.fV b (λk=>hb (dX b k)) λk=>hb (Jb κ k);refine⟨λb o x γ=>?_,λb x γ=>?_,λb x γ=>?_⟩
 ·by_cases hb:β<b
  ·exact .inr hb
  ·rcases(key b hb).1 o with e|⟨v,p,_,e,_⟩
   ·rw[e] at γ;exact h.aP b o x γ
   ·exact h.aP b o _ e
 ·by_cases hb:β<b
  ·exact hb
  ·rw[(key b hb).2.1] at γ;exact h.row b x γ
 ·by_cases hb:β<b
  ·exact hb
  ·rw[(key b hb).2.2] at γ;exact h.obj b x γ
theorem Pm {G':Α} (he:Ext S B G aF B' G') (dX:¬B.has β) (κ:∃o x,G.aP β o=some x):∃o x,G'.aP β o=some x:=by
 obtain⟨o,x,γ⟩:=κ;rcases(he.fV β dX (λΤ=>by rw[Τ.1 o] at γ;cases γ)).1 o with e|⟨v,p,_,_,e⟩
 ·exact⟨o,x,by rw[e];exact γ⟩
 ·exact⟨o,_,e⟩
theorem n8.blocks (h:n8 β bM E) (dz:Holds h1 B σ E) (ml:∀r∈σ,yS r) {b:Nat} (hb:B.has b):β<b:=by
 obtain⟨N,ck⟩:=hb;obtain⟨id,b5⟩:=List.getElem?_of_mem ck;have aO:id<σ.length:=by rw[<-dz.len];exact(bX.1 b5).1
 have ι:=a8 aO;obtain⟨t,k,l,e⟩:=ml _ (cG ι);rw[e] at ι;exact h.row b _ (dz.row id _ _ ι b5).1
theorem Z0 (he:Ext fu [] ei S [] H) (gh:∀b o v,bM b o=some v->S b o=some v) (Τ:ei.fresh β) (hi:n8 β bM E) (Β:Holds S [] [] H) (dz:Holds h1 B σ E) (ml:∀r∈σ,yS r) :
  Ext fu [] ei (S.plus h1) B (join H E):=by
 have yj:∀b,¬aW.has ([]:aW) b:=λb ⟨N,h⟩=>by simp at h
 have old:∀b,¬ei.fresh b->¬β<b:=λb h k=>h (Jc Τ k)
 have same:∀b,¬β<b->∀o,(join H E).aP b o=H.aP b o:=λb hb o=>by
  cases γ:H.aP b o with
  | some x=>rw[join_some γ]
  | none=>
   rw[join_none γ];cases Κ:E.aP b o with
   | none=>rfl
   | some y=>
    rcases hi.aP b o y Κ with k|k
    ·cases ν:bM b o with
     | none=>exact absurd ν k
     | some v=>
      obtain⟨p,π⟩:=Β.dm b o v (gh b o v ν);rw[γ] at π;cases π
    ·exact absurd k hb
 refine⟨λb o v h=>Bu (he.dm b o v h),λb _ ph=>?_,λb hb=>.inr (Jc Τ (hi.blocks dz ml hb)),λb o v h=>?_,λb h=>he.grow b ?_⟩
 ·have hb:=old b ph;obtain⟨k1,cp,rL⟩:=he.fV b (yj b) ph;refine⟨λo=>by rw[same b hb o];exact k1 o,?_,?_⟩
  ·cases γ:E.row b with
   | none=>rw[<-cp];simp only[join,γ];cases H.row b<;>rfl
   | some x=>exact absurd (hi.row b x γ) hb
  ·cases γ:E.obj b with
   | none=>rw[<-rL];simp only[join,γ];cases H.obj b<;>rfl
   | some x=>exact absurd (hi.obj b x γ) hb
 ·cases ν:S b o with
  | some u=>rw[Bu ν] at h;cases h;exact he.rv b o _ ν
  | none=>
   rw[Fi ν] at h;obtain⟨p,π⟩:=dz.dm b o v h;rcases hi.aP b o _ π with k|k
   ·cases sc:bM b o with
    | none=>exact absurd sc k
    | some u=>rw[gh b o u sc] at ν;cases ν
   ·exact .inr (.inr (Jc Τ k))
 ·have c:∀b o,(join H E).aP b o=none->H.aP b o=none:=λb o h=>by
   cases γ:H.aP b o with
   | none=>rfl
   | some x=>rw[join_some γ] at h;cases h
  have r:∀b,(join H E).row b=none->H.row b=none:=λb h=>by
   cases γ:H.row b with
   | none=>rfl
   | some x=>simp only[join,γ] at h;cases h
  have o:∀b,(join H E).obj b=none->H.obj b=none:=λb h=>by
   cases γ:H.obj b with
   | none=>rfl
   | some x=>simp only[join,γ] at h;cases h
  exact⟨λo'=>c b o' (h.1 o'),r b h.2.1,o b h.2.2.1,λΨ hb=>⟨λo'=>c Ψ o' ((h.2.2.2 Ψ hb).1 o'),r Ψ (h.2.2.2 Ψ hb).2.1,o Ψ (h.2.2.2 Ψ hb).2.2⟩⟩
end
end Go.TL
namespace Go.TL
open Go.Conc Go.Proofs
open Go.ConcN (sumTo upd sumTo_upd upd_ne upd_same sumTo_congr le_sumTo)
noncomputable def under (P:Program):Frame:={(default:Frame) with fn:=P.funcs.size,defers:=[],mode:=.panicking [goexitEntry]}
theorem Z1 {P:Program} {g:FuncId} {cap:Array Value} (Ο:Plain P g) (w:World):stepG P false (born P ⟨.fn (.func g) cap,#[]⟩) w=.go (Go.Conc.G (Frame.enter P g cap .deferred) [under P]) w #[]:=by
 obtain⟨fn,J,U,μ⟩:=Ο;have hI:¬fn.name = "runtime.NumGoroutine" := by simpa using U
 have Z2:¬fn.body=none:=by intro e;rw[e] at μ;cases μ
 simp[born,stepG,unwind,callDeferred,invoke,callFunc,J,hI,Z2,seen,GStep.after,Go.Conc.G,under]
theorem Z3 {P:Program} {b:Frame} {fn:Func} (bL:P.funcs[b.fn]?=some fn) (fc:fn.results=#[]) (eV:b.defers=[]) (hm:b.mode=.returning) (χ:b.kind=.deferred):lM P 0 (Go.Conc.G b [under P]):=by
 refine⟨2,QuitsD.ctl (g':=Go.Conc.G (under P) []) rfl (λw=>?_) ?_⟩
 ·simp[Go.Conc.G,stepG,unwind,hm,eV,bL,doReturn,results,fc,χ,under,seen,GStep.after,goexitEntry]
 ·refine QuitsD.ctl (g':={Go.Conc.G (under P) [] with status:=.finished}) rfl (λw=>?_) ⟨rfl,rfl⟩;simp[Go.Conc.G,stepG,unwind,under,goexitEntry,Frame.catches];rfl
def tE (l:List η):η:=if l.isEmpty then .sl true 0 [] else .ms 1 l.length 0 l.length
def gZ (l:List η):List Row:=.cells 99 1 [tE l]::bW 110 3 l
theorem Jd:tE []=.sl true 0 []:=rfl
theorem Fj {l:List η} (h:l≠[]):tE l=.ms 1 l.length 0 l.length:=by unfold tE;rw[if_neg (by simpa using h)]
theorem Pn {l:List η} {x:η}:tE (l++[x])=.ms 1 (l.length+1) 0 (l.length+1):=by rw[Fj ζ];simp
theorem Fl (l:List η):∀r∈gZ l,yS r:=by
 intro r h;unfold gZ bW at h;rcases List.mem_cons.1 h with rfl|h
 ·exact⟨_,_,_,rfl⟩
 ·split at h
  ·cases h
  ·simp at h;subst h;exact⟨_,_,_,rfl⟩
def w9 (β:Nat) (bM:aL) (o:Nat) (fd:Nat->Option Found) (L:List Nat) (E:Α):Prop:=
 n8 β bM E/\∃S B,Holds S B (gZ ((L.filterMap fd).map dg)) E/\B[0]?=some (some (o,1))
theorem Z4 {S aF:aL} {B B':aW} {l ep:List η} {m:Nat} (h:b3 S aF (B.take m) B' ((gZ l).take m) (gZ ep)) (hm:0<m):B'[0]?=B[0]?:=by
 obtain⟨m,rfl⟩:∃k,m=k+1:=⟨m-1,R⟩;obtain⟨r',J,U⟩:=h.rows 0 (.cells 99 1 [tE l]) (by simp[gZ]);have:r'=.cells 99 1 [tE ep]:=by simpa[gZ] using J.symm
 subst this;rcases U with⟨l2,_,_,μ⟩|μ
 ·simpa[List.getElem?_take] using μ
 ·have:=μ 1 ζ;simp[Row.hx] at this
section
variable {β s m o k:Nat} {S bM:aL} {fd:Nat->Option Found} {sp:Spec} {er:aS} {a b:Int} {v1 v2 xa:Value} {f:Found} {n:Nat}
abbrev mE (s:Nat) (sp:Spec):a2:=⟨Α.empty,λ_=>none,λ_=>.nil,upd (λ_=>none) s (some sp),λ_=>none,0,false⟩
abbrev Fo (s m o:Nat) (v1 v2 xa:Value):Array Value:=#[ptr s 0,v1,v2,xa,ptr m 0,ptr o 0]
abbrev Je (s m o:Nat) (er:aS) (a b:Int):List η:=[.z (ptr s 0),.ao [aT er.ae,a6 er.aj,bx er.cells],.ao [I a],.ao [I b],.z (ptr m 0),.z (ptr o 0)]
theorem Po:(mE s sp).spec s=some sp:=upd_same (λ_=>(none:Option Spec)) s (some sp)
theorem Pp (fA:sp.aZ=some m) (gY:sp.top<7):jT (mE s sp) s m sp:=⟨rfl,rfl,Po,fA,gY,λ_ _=>trivial⟩
theorem Z5 (gY:sp.top<7):Ph (mE s sp) s sp:=⟨rfl,rfl,Po,gY,λ_ _=>trivial⟩
theorem Z6 (fA:sp.aZ=some m) (gY:sp.top<7) (cY:sp.D k Α.empty) {Q:Value->Prop} {c:Frame} {H:Α} {v:Option (Nat×aV)} {d1:Deferred} (kL:wK Tryz.prog d1 142 #[ptr s 0])
  (hm:c.mode=.returning) (eV:c.defers=[d1]) (χ:c.kind=.deferred) (bL:c.fn=141):cC Tryz.prog Q false (bu (mE s sp) s (.ch k .done .work) v 0) c [under Tryz.prog] H:=by
 letI:bp:=eX;have γ:Seq (one (bu (mE s sp) s (.ch k .done .work) v 0)):=Seq.vb trivial rfl rfl;refine aU.deferred (x:=one _) γ (by rw[hm];simp) eV kL.t1 kL.t2 kL.run (λy Κ=>?_) _ rfl;cases Κ;refine ZR (Z5 gY) cY hm ?_;exact Z3 (fn:=Tryz.f141) (by rw[bL];exact Tryz.func141) rfl rfl hm χ
theorem Z7 (fA:sp.aZ=some m) (gY:sp.top<7) (cR:sp.ar=w9 β bM o fd) (cY:sp.D k Α.empty) {Q:Value->Prop} {c:Frame} {k3:aL} {k4:aW} {jR:Α} {L:List Nat} {v:Option (Nat×aV)} {d1 d2:Deferred}
  (kL:wK Tryz.prog d1 142 #[ptr s 0]) (n9:wK Tryz.prog d2 145 #[ptr m 0]) (hm:c.mode=.returning) (eV:c.defers=[d2,d1]) (χ:c.kind=.deferred) (bL:c.fn=141)
  (Β:Holds k3 k4 (gZ (((L++[k]).filterMap fd).map dg)) jR) (dX:k4[0]?=some (some (o,1))) (hi:n8 β bM jR) (κ:∃q x,jR.aP β q=some x) :
  cC Tryz.prog Q false (bu (mE s sp) s (.ch k (.dr L) .work) v 0) c [under Tryz.prog] jR:=by
 letI:bp:=eX;have γ:Seq (one (bu (mE s sp) s (.ch k (.dr L) .work) v 0)):=Seq.vb trivial rfl rfl;refine aU.deferred (x:=one _) γ (by rw[hm];simp) eV n9.t1 n9.t2 n9.run (λy Κ=>?_) _ rfl;cases Κ;refine Zh (x:=mE s sp) (s:=s) (c:={c with defers:=[d1]}) (Pp fA gY) Β hm λkm kn he ln=>⟨Α.empty,kn,⟨Sub.empty _,Sub.refl _,(Apart.um _).symm⟩,?_,λv2 jg ie _=>?_⟩
 ·rw[cR];obtain⟨dn,p2,p3⟩:=Β.back he ln;obtain⟨q,x,Ξ⟩:=κ;exact⟨hi.ext he (λb ⟨N,h⟩=>by simp at h) Ξ,km,k4,dn,dX⟩
 ·exact Z6 fA gY cY kL hm rfl χ bL
end
section
variable {β s m o k:Nat} {S bM:aL} {fd:Nat->Option Found} {sp:Spec} {er:aS} {a b:Int} {v1 v2 xa:Value} {f:Found} {n:Nat}
noncomputable abbrev Z8 (vs:Array Value) (ds:List Deferred):Frame:={Frame.enter Tryz.prog 141 vs .deferred with defers:=ds}
noncomputable def Fp:Code:=Tryz.f141.body.getD .skip
theorem Z9 (fA:sp.aZ=some m) (gY:sp.top<7) (cR:sp.ar=w9 β bM o fd) (cY:sp.D k Α.empty) (Jf:∀c:bp,@az c Tryz.prog 78 [dg f,I (-1)] (I n)) (vj:fd k=if 0<n then some f else none) {Q:Value->Prop}
  {aF:aL} {H' E:Α} {L:List Nat} (Β:Holds aF [] [] H') (dz:sp.ar L E) (iA:Apart H' E) (hw:∃w,Fits H' w/\Fits E w) (hlen:((L.filterMap fd).map dg).length<=4294967295) (pk:n8 β bM H') (Z':∃q x,H'.aP β q=some x)
  {t:Array Value} (ν:dv aF [] [] [(4,.z (ptr m 0)),(5,.z (ptr o 0)),(6,.ao (dg f).cells)] t) (cv:t.size=20) {vs:Array Value} {d1:Deferred} (kL:wK Tryz.prog d1 142 #[ptr s 0]) {ops:Array Oper} :
  cC Tryz.prog Q false (bu (mE s sp) s (.ch k (.dr L) .work) none 0) (ax (Z8 vs [d1]) t [.inRegion ops [],.code (ea [1,1,1] Fp)]) [under Tryz.prog] (join H' E):=by
 letI:bp:=eX;have γ:Seq (one (bu (mE s sp) s (.ch k (.dr L) .work) none 0)):=Seq.vb trivial rfl rfl;rw[cR] at dz;obtain⟨hi,h1,sf,xb,dX⟩:=dz;obtain⟨l,ξ⟩:=aK ((L.filterMap fd).map dg);have ly:l.length<=4294967295:=ξ▸hlen;rw[<-ξ] at xb;obtain⟨Jg,l1,l2⟩:=Pl Β xb iA hw (Fl l);have k8:∀b,sf.has b->β<b:=λb=>hi.blocks xb (Fl l);have Jh:∃q x,(join H' E).aP β q=some x:=let ⟨q,x,h⟩:=Z';⟨q,x,join_some h⟩;have au:t.getD 5 undef=ptr o 0:=by
  have:=ν 5;generalize t.getD 5 undef=u at this;cases this;rfl
 have sc:dv (aF.plus h1) sf (gZ l) [(4,.z (ptr m 0)),(5,.ah 0 1 0 0),(6,.ao (dg f).cells)] t:=λi=>by
  have an:=(ν i).later l1;simp only[a5] at an ⊢;by_cases cM:4=i
  ·simpa[cM] using an
  by_cases fh:5=i
  ·subst fh;simp only[show ¬4=5 by decide,if_false,if_true];rw[au];have:=av.ah (S:=aF.plus h1) (B:=sf) (σ:=gZ l) (id:=0) (n:=1) (i:=0) (j:=0) (k:=1) (t:=99) (l:=[tE l]) (b:=o) (N:=1) (by simp[gZ]) rfl dX;simpa using this
  ·simpa[cM,fh] using an
 have leave:∀(ep:List η) (jg:aL) (ko:aW) (ie:Α) (c:Frame) (d2:Deferred),ep=((L++[k]).filterMap fd).map dg->e4 1 (aF.plus h1) sf (join H' E) (gZ l) jg ko ie (gZ ep)->Holds jg ko (gZ ep) ie->wK Tryz.prog d2 145 #[ptr m 0]->
   c.mode=.returning->c.defers=[d2,d1]->c.kind=.deferred->c.fn=141->cC Tryz.prog Q false (bu (mE s sp) s (.ch k (.dr L) .work) none 0) c [under Tryz.prog] ie:=λep jg ko ie c d2 e bY Ji n9 c1 c2 c3 c4=>by
  subst e;obtain⟨q,x,Ξ⟩:=Jh;exact Z7 fA gY cR cY kL n9 c1 c2 c3 c4 Ji (by rw[Z4 bY.later R];exact dX) ((pk.join hi).ext bY.ext k8 Ξ) (Pm bY.ext (λh=>Nat.lt_irrefl _ (k8 β h)) ⟨q,x,Ξ⟩)
 refine V.here (x:=one _) (m:=1) (nt:=20) (S:=aF.plus h1) (B:=sf) (σ:=gZ l) (env:=[(4,.z (ptr m 0)),(5,.ah 0 1 0 0),(6,.ao (dg f).cells)]) ?_ ⟨Jg,sc,cv,by simp[gZ]⟩ _ rfl;refine V.fT γ rfl ?_;refine W.bF ?_;simp only[Fp,Tryz.f141,Option.getD_some,ea];refine c7 ?_;refine W.cy (.stop ?_);refine V.defer γ rfl rfl rfl rfl rfl rfl rfl ⟨_,Tryz.func145,rfl,rfl⟩ λk3 k4 jR t3 d2 I5 hX fC tq n9=>?_;obtain rfl:=nj (l:=[ptr m 0]) tq;rintro y rfl;refine V.here (x:=one _) (m:=1) (nt:=20) ?_ fC _ rfl;refine V.fT γ rfl ?_;refine W.bF ?_;refine bh λΘ θ=>?_;refine az.d (Jf _) (bD ?_);apply θ;by_cases Ζ:0<n
 ·refine aD (by simp[Ζ]) ?_;refine W.iN (A:=[19]) Υ [] (gZ (l++[dg f])) (.stop ?_) (by
   by_cases Φ:l=[]
   ·subst Φ;(try simp);(repeat (rw[al];simp[gZ,Jd,k5]));(try simp[gZ,Jd,k5]);exact⟨rfl,rfl⟩
   ·(try simp);(repeat (rw[al];simp[gZ,Fj Φ,e6 Φ,Pn,tt]));(try simp[gZ,Fj Φ,e6 Φ,Pn,tt]);exact ly)
  intro jg ko ie t5 kP lN;refine aU.sM γ rfl rfl ?_;rintro y rfl;exact leave _ jg ko ie _ d2 (by rw[List.filterMap_append,List.map_append,<-ξ];simp[vj,Ζ]) (hX.trans kP) lN.holds n9 rfl rfl rfl rfl
 ·refine aA (by simp;omega) ?_;refine c7 ?_;refine W.stop ?_;intro jg ko ie t5 kP lN;refine aU.sM γ rfl rfl ?_;rintro y rfl;exact leave _ jg ko ie _ d2 (by rw[List.filterMap_append,List.map_append,<-ξ];simp[vj,Ζ]) (hX.trans kP) lN.holds n9 rfl rfl rfl rfl
theorem xc {S:aL} {B:aW} {σ:List Row} {env env':Χ} {t:Array Value} (h:dv S B σ env t) (ν:∀p∈env',a5 env p.1=p.2):dv S B σ env' t:=by
 induction env' with
 | nil=>exact λi=>.cg _
 | cons p l ω=>
  intro i;simp only[a5];split
  ·rename_i e;have:=ν p ζ;rw[<-this,e];exact h i
  ·exact ω (λq Ξ=>ν q (by simp[Ξ])) i
theorem aα (fA:sp.aZ=some m) (gY:sp.top<7) (cR:sp.ar=w9 β bM o fd) (cY:sp.D k Α.empty) (aβ:∀c:bp,@az c Tryz.prog 143 [fS er,aG (a,b)] (dg f))
  (Jf:∀c:bp,@az c Tryz.prog 78 [dg f,I (-1)] (I n)) (vj:fd k=if 0<n then some f else none) (aγ:∀L:List Nat,L.Nodup->((L.filterMap fd).map dg).length<=4294967295)
  (κ:∃q v,S β q=some v) (gh:∀b q v,S b q=some v->bM b q≠none\/β<b) (Jj:fQ S [] [] (Je s m o er a b) (Fo s m o v1 v2 xa)) {Q:Value->Prop} :
  Goes Tryz.prog Q false (born Tryz.prog ⟨.fn (.func 141) (Fo s m o v1 v2 xa),#[]⟩) {bu (mE s sp) s (.ch k .idle .work) none 0 with G:=nu S}:=by
 letI:bp:=eX;have vk:Seq (one (bu (mE s sp) s (.ch k .idle .work) none 0)):=Seq.vb trivial rfl rfl;refine Quiet.goes (.cons ⟨rfl,rfl⟩ (λw=>Z1 ⟨_,Tryz.func141,rfl,rfl⟩ w) (.nil _)) (.inl rfl) ⟨rfl,rfl⟩ ?_;show cC Tryz.prog Q false (bu (mE s sp) s (.ch k .idle .work) none 0) (Frame.enter Tryz.prog 141 (Fo s m o v1 v2 xa) .deferred) [under Tryz.prog] (nu S);rw[qB (body:=Fp) Tryz.func141 rfl];refine V.here (x:=one _) (m:=0) (nt:=20) (S:=S) (B:=[]) (σ:=[]) (env:=entry 0 (Je s m o er a b)) ?_ (fO.enter ZW Jj (Nat.le_refl _) ζ) _ rfl;refine V.fT vk rfl ?_;simp only[Fp,Tryz.f141,Option.getD_some];refine c7 ?_;refine W.cy (.stop ?_);refine V.defer vk rfl rfl rfl rfl rfl rfl rfl ⟨_,Tryz.func142,rfl,rfl⟩ λk3 k4 jR t3 d1 I5 hX fC tq kL=>?_;obtain rfl:=nj (l:=[ptr s 0]) tq;obtain rfl:k4=[]:=dO.1 fC.holds.len;rintro y rfl;refine V.here (x:=one _) (m:=0) (nt:=20) ?_ fC _ rfl;refine V.fT vk rfl ?_;refine W.bF ?_;refine c7 ?_;refine dB (A:=[6]) Υ λΘ θ=>bD ?_;refine az.d (aβ _) (bD ?_);apply θ;refine W.fix (id:=0) (σ':=[]) (Nat.zero_le _) rfl ζ ζ rfl [(4,.z (ptr m 0)),(5,.z (ptr o 0)),(6,.ao (dg f).cells)] (by simp[entry]) ?_;refine c7 ?_;refine W.cy (.stop ?_);refine V.call vk ⟨rfl,rfl,by simp[Frame.enter],rfl⟩ rfl rfl rfl ⟨_,Tryz.func144,rfl,rfl⟩ λkm pC kn t4 Zg tp qD IW=>?_;obtain rfl:=nj (l:=[ptr m 0]) IW;obtain rfl:pC=[]:=dO.1 qD.holds.len;rintro y rfl;refine Y' (Pp fA gY) qD.holds λjg ie L E Pq Ji dz iA ⟨kZ,Lq,hw⟩=>?_;rw[iY rfl];have pt:Ext S [] (nu S) jg [] ie:=hX.ext.trans (tp.ext.trans Pq);obtain⟨h8,u0,Fq⟩:=κ;have k8:∀b,¬aW.has ([]:aW) b:=λb ⟨N,h⟩=>by simp at h
 exact Z9 fA gY cR cY Jf vj Ji dz iA hw (aγ L kZ) ((ZZ gh).ext pt (λb h=>absurd h (k8 b)) (Ja Fq)) (Pm pt (k8 β) ⟨h8,_,Ja Fq⟩)
  (by
   refine dv.later (xc (qD.put (a:=.z (.tuple #[])) rfl (.z _)).cx (by simp[b0])) ⟨Pq.dm,λid r h=>by simp at h⟩) (qD.put (a:=.z (.tuple #[])) rfl (.z _)).size kL
end
end Go.TL
namespace Go.TL
open Go.Conc Go.Proofs
variable [bp]
noncomputable abbrev aδ (vs:Array Value):Frame:=Frame.enter Tryz.prog 126 vs .normal
abbrev sg (L:Nat):η:=.fn (.yield L) [] []
structure aε (Q:Value->Prop) (mn:Bool) (x:g9) (cs:List Frame) (vl:Frame) (o:Base) (L:Nat) (r:Loop) (n:Nat) (jU jV:Row) (Fnd:List (List Nat)->Prop):Prop where
 m:o.m=2
 dd:e3 2 jU
 bC:e3 2 jV
 cZ:r.params.size=1
 round:∀(l:List Nat) (rem:List (List Nat)),Fnd (l::rem)->l.length<=n->(∀x∈l,x<n)->∀(S:aL) (B:aW) (H:Α) (ws:Array Value) (c:Frame),e4 2 o.S o.B o.H o.σ S B H [jU,jV,fD l]->Holds S B [jU,jV,fD l] H->¬B.has L->H.obj L=some (.loop r)->fQ S B [jU,jV,fD l] [.ms 2 l.length 0 l.length] ws->
  (Fnd rem->∀(aF:aL) (B':aW) (H':Α),e4 2 o.S o.B o.H o.σ aF B' H' [jU,jV,fD l]->b3 S aF B B' [jU,jV,fD l] [jU,jV,fD l]->Holds aF B' [jU,jV,fD l] H'->¬B'.has L->H'.obj L=some (.loop r)->aU Tryz.prog Q mn x (c.finish (.bool true)) (vl::cs) H')->
  (∀H',(∀(cU:aL) (bH:Α),Ext fp [] H' cU [] bH->aU Tryz.prog Q mn x (vl.finish (.tuple #[])) cs bH)->aU Tryz.prog Q mn x (c.finish (.bool false)) (vl::cs) H')->
  aU Tryz.prog Q mn x (Frame.round L r.fn ((r.params.zip ws).foldl (λtmps (t,a)=>tmps.setIfInBounds t a) r.tmps) r.assign r.body .normal) (c::vl::cs) H
 done:Fnd []->∀(S:aL) (B:aW) (H:Α),e4 2 o.S o.B o.H o.σ S B H [jU,jV]->Holds S B [jU,jV] H->¬B.has L->H.obj L=some (.loop r)->aU Tryz.prog Q mn x (vl.finish (.tuple #[])) cs H
def sh (c i:Nat):List Int:=(List.range i).map (λj:Nat=>(j:Int))++List.replicate (c-i) 0
theorem aζ {c i:Nat} (h:i<c):(sh c i).set i (i:Int)=sh c (i+1):=by
 unfold sh;have Γ:((List.range i).map λj:Nat=>(j:Int)).length=i:=ζ;have Δ:c-i=(c-(i+1))+1:=R;rw[List.set_append_right _ _ R,Γ,Nat.sub_self,Δ,List.replicate_succ,List.set_cons_zero,List.range_succ,List.map_append];simp
theorem aη {c i:Nat} (h:i<=c):(sh c i).length=c:=by simp[sh];omega
theorem aθ (c:Nat):(sh c c).map I=(List.range c).map λn:Nat=>I n:=by simp[sh]
section
variable {Q:Value->Prop} {mn:Bool} {x:g9} {cs:List Frame} {vl:Frame} {o:Base} {L:Nat} {r:Loop} {n:Nat} {jU jV:Row} {Fnd:List (List Nat)->Prop} {vs:Array Value}
theorem aι (γ:Seq x) (Ζ:n<=10) (hC:aε Q mn x cs vl o L r n jU jV Fnd) (an:Fnd (k9 n 0)) :
  tA Tryz.prog Q mn x (aδ vs) (vl::cs) 72 o L r [.code (Tryz.f126.body.getD .skip)] (entry 0 [sg L,.ao [I n]]) [jU,jV]:=by
 have hm:=hC.m;refine tA.fT γ rfl ?_;simp only[Tryz.f126,Option.getD_some];have A5:=fl (show n<11 by omega) R;refine aE A5 ?_;refine W.iter (λc:Nat=>c<=n+1/\Fnd (k9 n c)) (λc=>[(0,sg L),(1,.ao [I n]),(9,I ((n:Int)+1)),(10,I c)]) (λ_=>[jU,jV]) (λc=>n+1-c) 0 ⟨Nat.zero_le _,an⟩ rfl (by simp[entry,A5]) (λc ε ω=>?_);obtain⟨lz,ev⟩:=ε;refine Η ?_;by_cases mS:c<n+1
 ·refine aD (by simp;omega) ?_;refine Η ?_;have jM:(0:Int)<=c:=R;have aκ:(8:Int)*c<=281474976710656:=R;refine dB (A:=[14]) Υ λΘ θ=>bD ?_;simp[aκ];(repeat (rw[al];simp[]));apply θ;refine Η ?_;refine W.iter (λi:Nat=>i<=c) (λi=>[(0,sg L),(1,.ao [I n]),(9,I ((n:Int)+1)),(10,I c),(3,I c),(4,.ms 2 c 0 c),(16,I c),(17,I i)]) (λi=>[jU,jV,.cells 3 1 ((sh c i).map I)]) (λi=>c-i) 0 (Nat.zero_le _) (by simp[sh]) ζ (λi hi g4=>?_);refine Η ?_;by_cases yT:i<c
  ·refine aD (by simp[yT]) ?_;have kj:=fl yT (show c<2 ^ 62 by omega);have DG:=aη (Nat.le_of_lt yT);have pq:=aζ yT;obtain⟨G,di⟩:=aK (sh c i);rw[<-di] at DG pq ⊢;have aμ:i<G.length:=R;refine aE (υ DG (υ yT (υ aμ kj))) ?_;refine W.to (g4 (i+1) yT R) ?_ ?_
   ·rw[<-pq];simp
   ·simp[kj]
  ·have eI:i=c:=by omega
   subst eI;refine aA ζ ?_;refine W.exit rfl ?_;rw[aθ]
   repeat apply Ω
   refine W.iter (λx:Nat×List Nat=>qP n x.1 x.2=true/\x.2.length=i/\Fnd (oQ n x.1 x.2++k9 n (i+1))) (λ_=>[(0,sg L),(1,.ao [I n]),(9,I ((n:Int)+1)),(10,I i),(3,I i),(4,.ms 2 i 0 i)]) (λx=>[jU,jV,fD x.2]) (λx=>x.1) (300,List.range i)
    ⟨Yv n R i mS,ζ,by rw[<-Yw mS];exact ev⟩ rfl ζ (λx γ rV=>?_)
   obtain⟨g,l⟩:=x;obtain⟨dQ,ly,Jk⟩:=γ;simp only at dQ ly Jk ⊢
   repeat apply Ω
   refine W.cy ?_;refine fw [0,1] [2,3] ?_;refine W.stop ?_;obtain⟨rem,aν,Pr⟩:∃rem,oQ n g l++k9 n (i+1)=l::rem/\((qO n l=none/\rem=k9 n (i+1))\/∃dA aa,qO n l=some dA/\g=aa+1/\rem=oQ n aa dA++k9 n (i+1)/\qP n aa dA=true):=by
    cases vm:qO n l with
    | none=>exact⟨k9 n (i+1),by rw[Yz vm];rfl,.inl ⟨rfl,rfl⟩⟩
    | some dA=>
     obtain⟨aa,Γ,Δ,a4⟩:=YA dQ vm;exact⟨oQ n aa dA++k9 n (i+1),by rw[Δ];rfl,.inr ⟨dA,aa,rfl,Γ,rfl,a4⟩⟩
   rw[aν] at Jk;have aO:=Yy dQ;refine tA.yield γ ⟨rfl,rfl,by simp[Frame.enter],rfl⟩ rfl rfl rfl hC.cZ.symm λS B H t ws κ π k8 ai hv=>?_;refine hC.round l rem Jk R aO S B H ws _ (by rw[<-hm];exact κ) π.holds k8 ai (by rw[ly];exact hv) (λJl aF B' H' eo Em ja aξ wQ=>?_) (λH' ν=>?_)
   ·rw[iY rfl];have Bv:dv aF B' [jU,jV,fD l] [(27,.z (.bool true)),(0,sg L),(1,.ao [I n]),(9,I ((n:Int)+1)),(10,I i),(3,I i),(4,.ms 2 i 0 i)] (t.setIfInBounds 27 (.bool true)):=xc (dv.put (π.cx.later Em) (d:=27) (by rw[π.size];omega) (.z _)) ζ;refine(tA.fT (env:=[(27,.z (.bool true)),(0,sg L),(1,.ao [I n]),(9,I ((n:Int)+1)),(10,I i),(3,I i),(4,.ms 2 i 0 i)]) (σ:=[jU,jV,fD l]) (o:=o) (L:=L) (r:=r) (nt:=72) γ rfl ?_) aF B' H' _ (by rw[hm];exact eo) ⟨ja,Bv,Eq.trans (Array.size_setIfInBounds ..) π.size,by rw[hm];simp⟩ aξ wQ;refine fw [3] [] ?_;refine W.bF ?_;refine aA rfl ?_;have hB:IntKind.i64.wrap ((i:Int)-1)=(i:Int)-1:=IntWalk.i64_in _ R;refine aE hB ?_;refine W.iter (λe:Nat=>e<=i/\qN n l i=qN n l e) (λe=>[(0,sg L),(1,.ao [I n]),(9,I ((n:Int)+1)),(10,I i),(3,I i),(4,.ms 2 i 0 i),(6,I ((e:Int)-1))]) (λ_=>[jU,jV,fD l]) (λe=>e) i ⟨Nat.le_refl _,rfl⟩ rfl (by simp[hB]) (λe he zV=>?_);obtain⟨jΚ,Ps⟩:=he
    repeat apply Ω
    have wT:=fl mS (show n+1<2 ^ 62 by omega)
    have ti:qO n l=(qN n l e).map λq=>nk l q (l.length-q):=by unfold qO;rw[ly,Ps]
    cases e with
    | zero=>
     have GQ:rem=k9 n (i+1):=by
      rcases Pr with⟨_,h⟩|⟨dA,aa,h,_⟩
      ·exact h
      ·rw[ti] at h;simp[qN] at h
     rw[GQ] at Jl;refine uV ?_;refine aA rfl ?_;refine W.exit rfl ?_;refine Η ?_;refine aD rfl ?_;refine W.exit rfl ?_;refine W.drop (h:=2) (σ':=[jU,jV]) (by rw[hm];exact Nat.le_refl _) ζ (λid q b5 Ξ=>by
      match id,b5,Ξ with
      | 0,_,Ξ=>simp at Ξ;subst Ξ;exact hC.dd
      | 1,_,Ξ=>simp at Ξ;subst Ξ;exact hC.bC) rfl [(0,sg L),(1,.ao [I n]),(9,I ((n:Int)+1)),(10,I i)] (by simp[mg]) ?_
     refine aE wT ?_;refine W.to (ω (i+1) ⟨mS,Jl⟩ R) rfl ?_;simp[wT]
    | succ e=>
     have nL:e<l.length:=R
     have hle:=aO _ (List.getElem_mem nL)
     have Fs:l.getD e 0=l[e]:=by simp[List.getD_eq_getElem?_getD,nL]
     have gO:IntKind.i64.wrap ((n:Int)-i)=(n:Int)-i:=IntWalk.i64_in _ R
     have gJ:IntKind.i64.wrap ((n:Int)-i+e)=(n:Int)-i+e:=IntWalk.i64_in _ R
     have jB:IntKind.i64.wrap ((e:Int)-1)=(e:Int)-1:=IntWalk.i64_in _ R
     have Pt:e<i:=R
     have sc:((e+1:Nat):Int)-1=e:=R;rw[sc];refine dR (υ nL (υ Pt (υ ly (υ gO gJ)))) ?_;by_cases Ξ:l[e]+i=n+e
     ·have Ft:qN n l (e+1)=qN n l e:=by rw[qN,if_pos (by rw[Fs,ly];exact Ξ)]
      refine aD (by simp;omega) ?_;refine aE jB ?_;refine W.to (zV e ⟨R,by rw[Ps,Ft]⟩ R) rfl ?_;simp[jB]
     ·have Ft:qN n l (e+1)=some e:=by rw[qN,if_neg (by rw[Fs,ly];exact Ξ)]
      refine aA (by simp;omega) ?_;refine W.exit rfl ?_;refine Η ?_;refine aA ζ ?_;obtain⟨dA,aa,g5,jΜ,aο,aπ⟩:∃dA aa,qO n l=some dA/\g=aa+1/\rem=oQ n aa dA++k9 n (i+1)/\qP n aa dA=true:=by
       rcases Pr with⟨h,_⟩|h
       ·rw[ti,Ft] at h;cases h
       ·exact h
      have jj:dA=nk l e (i-e):=by
       rw[ti,Ft] at g5;simp at g5;rw[<-g5,ly]
      have aρ:IntKind.i64.wrap ((l[e]:Int)+1)=(l[e]:Int)+1:=IntWalk.i64_in _ R
      have Pu:IntKind.i64.wrap ((e:Int)+1)=(e:Int)+1:=IntWalk.i64_in _ R;refine aE (υ nL (υ Pt (υ ly (υ aρ Pu)))) ?_;refine W.iter (λp:Nat=>e+1<=p/\p<=i) (λp=>[(0,sg L),(1,.ao [I n]),(9,I ((n:Int)+1)),(10,I i),(3,I i),(4,.ms 2 i 0 i),(7,I p)]) (λp=>[jU,jV,fD (nk l e (p-e))]) (λp=>i-p) (e+1) ⟨Nat.le_refl _,R⟩ (by
       have:e+1-e=1:=R;rw[this,YB nL];simp) (by simp[Pu]) (λp π aQ=>?_)
      obtain⟨na,nb⟩:=π;refine Η ?_;by_cases Pv:p<i
      ·refine aD (by simp[Pv]) ?_;obtain⟨q,jΝ⟩:=aK (p-1);obtain⟨ak,aI⟩:=aK (nk l e (p-e));have mr:ak.length=i:=by rw[aI,OA R,ly]
       have Pw:q<ak.length:=R
       have aς:p<ak.length:=R
       have aτ:q<i:=R
       have Fu:ak[q]=l[e]+(p-e):=by
        have:=YC (l:=l) (i:=e) (k:=p-e) R R
        have Γ:e+(p-e)-1=q:=R;rw[Γ,<-aI,Fs] at this;simpa[List.getD_eq_getElem?_getD,Pw] using this
       have uJ:ak.set p (ak[q]+1)=nk l e (p+1-e):=by
        have:=YD (l:=l) (i:=e) (k:=p-e) R
        have Γ:e+(p-e)=p:=R
        have Δ:p-e+1=p+1-e:=R;rw[Γ,Δ,<-aI,Fs,<-Fu] at this;exact this
       have yU:ak[q]<100:=R
       have aυ:IntKind.i64.wrap ((p:Int)-1)=(q:Int):=by rw[IntWalk.i64_in _ R];omega
       have aφ:IntKind.i64.wrap ((ak[q]:Int)+1)=(ak[q]:Int)+1:=IntWalk.i64_in _ R
       have Px:IntKind.i64.wrap ((p:Int)+1)=(p:Int)+1:=IntWalk.i64_in _ R;rw[<-aI];refine aE (υ aυ (υ Pw (υ aς (υ aτ (υ Pv (υ mr (υ aφ Px))))))) ?_;refine W.to (aQ (p+1) ⟨R,R⟩ R) ?_ ?_
       ·rw[<-uJ];simp
       ·simp[Px]
      ·have aχ:p=i:=by omega
       subst aχ;refine aA ζ ?_;refine W.exit rfl ?_
       repeat apply Ω
       refine W.to (rV (aa,dA) ⟨aπ,by rw[jj,OA R,ly],by rw[<-aο];exact Jl⟩ (by show aa<g;omega)) (by rw[jj]) ?_;simp
   ·rw[iY rfl];have Bv:dv fp [] [] [(27,.z (.bool false))] (t.setIfInBounds 27 (.bool false)):=λj=>by
     simp only[a5];split
     ·rename_i e;subst e;have:(t.setIfInBounds 27 (Value.bool false)).getD 27 undef=.bool false:=by
       have aψ:27<t.size:=by rw[π.size];omega
       simp[Array.getD_eq_getD_getElem?,aψ]
      rw[this];exact .z _
     ·exact .cg _
    refine V.here (m:=0) (nt:=72) (S:=fp) (B:=[]) (σ:=[]) (env:=[(27,.z (.bool false))]) ?_ ⟨yM H',Bv,Eq.trans (Array.size_setIfInBounds ..) π.size,Nat.zero_le _⟩;refine V.fT γ rfl ?_;refine fw [3] [] ?_;refine W.bF ?_;refine aD rfl ?_;refine W.stop ?_;refine V.IF γ rfl rfl rfl rfl Tryz.func126 rfl λbM bS H1 qE j7=>?_;obtain rfl:bS=[]:=dO.1 j7.len;exact ν bM H1 qE.ext
 ·have Ix:c=n+1:=by omega
  subst Ix;refine aA ζ ?_;refine W.exit rfl ?_;refine W.stop ?_;intro S B H t κ π k8 ai;rw[Yx] at ev;refine aU.sM γ rfl rfl (aU.back γ rfl rfl (.inl rfl) Tryz.func126 ?_);rw[results_none rfl];rw[hm] at κ;exact ς.pure' (hC.done ev S B H κ π.holds k8 ai)
end
theorem aω (n:Nat):az Tryz.prog 83 [I n] (.fn (.func 126) [] [.ao [I n]]):=by
 refine ab.body Υ Tryz.func83 rfl rfl Tryz.ntmps83 rfl rfl ζ ?_;refine Η ?_;refine W.rt ?_;exact .refl _
theorem Ext.Py {S:aL} {B:aW} {H:Α} {r:Nat} {y:Obj} (Τ:H.fresh r):Ext S B H S B (H.bK r y):=
 ⟨λ_ _ _ h=>h,λb _ hb=>by
  have:b≠r:=λe=>hb (e▸Τ);exact nJ.of ⟨λ_=>rfl,rfl,by simp[Α.bK,this]⟩,λb h=>.inl h,λb o v h=>.inl h,Α.GY⟩
theorem Holds.Pz {S:aL} {B:aW} {σ:List Row} {H:Α} (Β:Holds S B σ H) (ml:∀r∈σ,yS r) {b:Nat} (Τ:H.fresh b):¬B.has b:=λ⟨N,ck⟩=>by
 obtain⟨id,b5⟩:=List.getElem?_of_mem ck;have aO:id<σ.length:=by rw[<-Β.len];exact(bX.1 b5).1
 have ι:=a8 aO;obtain⟨t,k,l,e⟩:=ml _ (cG ι);rw[e] at ι;exact Β.ov ι trivial b5 Τ
def vn (s:aS) (F:List Found) (cell:Int) (lower:Bool):List Int×Int:=
 if(oM s cell F).2.2≠0 then([],(oM s cell F).2.2)
 else match (k9 s.aj.length 0).find? (rZ s F cell.toNat lower) with
 | some l=>(l.map λn:Nat=>(n:Int),0)
 | none=>([],11)
abbrev oT:Row:=.cells 29 1 [.sl true 0 []]
abbrev oU:Row:=.cells 38 1 [I 0]
abbrev yV (s:aS) (F:List Found) (cell:Int) (lower:Bool):Χ:=[(3,.ao [aT s.ae,a6 s.aj,bx s.cells]),(4,.ao [I cell]),(5,.ao [a' lower]),(6,.ah 0 1 0 0),(7,.ah 1 1 0 0),(8,.ao [aT s.ae,a6 s.aj,bx s.cells]),(9,.ao [cW F])]
section
variable {Q:Value->Prop} {mn:Bool} {x:g9} {c:Frame} {rest:List Frame} {fu S:aL} {B:aW} {ei H:Α} {σ:List Row} {res:List Int×Int} {l:List Int} {fZ:Int} {e:Bool} {kk:Nat} {b:Frame} {t:Array Value} {k:List Item} {env:Χ}
theorem PA (γ:Seq x) (mf:wy Tryz.prog Q mn x c rest fu [] ei [] (λa s=>c6 a (.bq [bt I 1 res.1,I res.2])/\s=[]) (λ_ _=>False)) (bL:b.fn=28) (g6:b.kind=.normal) (eV:b.defers=[]) (aΑ:b.mode=.returning)
  (he:Ext fu [] ei S B H) (Β:Holds S B σ H) (ν:dv S B σ env b.tmps) (bd:a5 env 6=.ah 0 1 0 0) (g7:a5 env 7=.ah 1 1 0 0) (aΒ:σ[0]?=some (.cells 29 1 [.sl e kk (l.map I)])) (aΓ:σ[1]?=some (.cells 38 1 [I fZ])) (fc:res=(l,fZ)) (χ:l≠[]->kk=1):aU Tryz.prog Q mn x b (c::rest) H:=by
 subst fc;refine aU.back γ aΑ eV (.inl g6) (fn:=Tryz.f28) (by rw[bL];exact Tryz.func28) ?_;refine ς.mono (λv ie ⟨jg,ko,fh,vF,au,zp⟩=>?_) (λ_ _ h=>h) _ (D' Υ (a:=.bq [.sl e kk (l.map I),I fZ]) (show qq bg [.cell 6 29,.cell 7 38] env σ=some (.bq [.sl e kk (l.map I),I fZ]) by simp[qq,s8,yi,bd,g7,aΒ,aΓ,s7,iC.agg,D9]) Β ν);obtain⟨J,U⟩:=au.close (h:=0) (λid r b5=>R);simp only[List.take_zero] at J U;have ι:av (jg.close ko σ ie 0) [] [] (.bq [.sl e kk (l.map I),I fZ]) v:=by
  have hb:aJ 0 (.bq [.sl e kk (l.map I),I fZ]):=ζ
  have:=(zp.later (b3.refl jg ko σ)).any hb [] [];exact this.later ⟨λb o v hv=>U.dm _ _ _ hv,λid r h=>by simp at h⟩
 have PB:=he.trans (fh.trans U);refine mf.ret _ [] _ [] ie v ⟨?_,rfl⟩ PB ⟨PB.dm,λid r h=>by simp at h⟩ J ι;refine .bq (.cons ?_ (.cons (.refl _) .nil));by_cases ξ:l=[]
 ·subst ξ;exact .nil
 ·rw[χ ξ];exact .ex
end
noncomputable abbrev Jm (vs:Array Value):Frame:=Frame.enter Tryz.prog 28 vs .normal
theorem aΔ {s:aS} {F:List Found} {cell:Int} (h:(oM s cell F).2.2=0):0<=cell/\cell<s.cells.length/\oM s cell F=(s,F,0):=by
 unfold oM at h ⊢;split at h
 ·rename_i J;simp at h;exact absurd h J
 ·split at h
  ·simp at h
  ·rename_i J U;rw[if_neg J,if_neg U];refine⟨R,R,?_⟩;unfold eK at h ⊢;rw[if_neg J] at h ⊢;split at h
   ·simp at h
   ·rename_i μ;rw[if_neg μ]
section
variable {Q:Value->Prop} {mn:Bool} {c:Frame} {rest:List Frame}
theorem aΕ (s:aS) (ν:s.small) (F:List Found) (ev:rT s F) (ck:EK s F) (cell:Int) (lower:Bool) (PC:s.aj.length<=4) :
  az Tryz.prog 28 [fS s,I cell,a' lower] (.bq [bt I 1 (vn s F cell lower).1,I (vn s F cell lower).2]):=by
 refine⟨⟨_,Tryz.func28,rfl,rfl⟩,λQ mn x c rest fu eH ei vs γ sL Jn mf=>?_⟩;obtain rfl:eH=[]:=dO.1 sL.len;rw[qB (body:=Tryz.f28.body.getD .skip) Tryz.func28 rfl];refine V.here (x:=x) (m:=0) (nt:=35) (S:=fu) (B:=[]) (H:=ei) (σ:=[]) (env:=entry 0 [fS s,I cell,a' lower]) ?_ (fO.enter sL Jn (Nat.le_refl _) ζ);refine V.fT γ rfl ?_;simp only[Tryz.f28,Option.getD_some]
 repeat apply Ω
 refine dB (A:=[6,7]) Υ λΘ θ=>bD ?_;apply θ;refine c7 ?_;refine dB (A:=[8,9]) Υ λΘ θ=>bD ?_;refine az.d (Xj s ν cell F ev) (bD ?_);apply θ;by_cases b:(oM s cell F).2.2=0
 case neg=>
  have e:vn s F cell lower=([],(oM s cell F).2.2):=by unfold vn;rw[if_pos b]
  rw[e] at mf;generalize (oM s cell F).2.2=fZ at b mf ⊢;refine Η ?_;refine aD (by simp[b]) ?_;refine Η ?_;refine W.stop ?_;intro jg ko ie t5 kP lN;refine aU.ret γ rfl rfl ?_;exact PA γ mf rfl rfl rfl rfl kP.ext lN.holds lN.cx rfl rfl rfl rfl rfl (λh=>absurd rfl h)
 obtain⟨jM,lz,e⟩:=aΔ b;obtain⟨n,rfl⟩:∃n:Nat,cell=n:=⟨cell.toNat,R⟩;have cm:n<s.cells.length:=R;have Δ:vn s F n lower=match (k9 s.aj.length 0).find? (rZ s F n lower) with|some l=>(l.map λn:Nat=>(n:Int),0)|none=>([],11):=by
  unfold vn;rw[if_neg (by simpa using b)];rfl
 rw[e];refine W.fix (id:=3) (σ':=[oT,oU,.cells 98 3 [fS s]]) (Nat.zero_le _) rfl ζ (λid q b5 Ξ=>by
  match id,b5,Ξ with
  | 0,_,Ξ=>simp at Ξ;subst Ξ;simp[e3,η.cells]
  | 1,_,Ξ=>simp at Ξ;subst Ξ;simp[e3,η.cells]
  | 2,_,Ξ=>simp at Ξ;subst Ξ;simp[e3,η.cells]) rfl [(3,.ao [aT s.ae,a6 s.aj,bx s.cells]),(4,.ao [I n]),(5,.ao [a' lower]),(6,.ah 0 1 0 0),(7,.ah 1 1 0 0),(8,.ah 2 1 0 0),(9,.ao [cW F]),(10,I 0)] (by simp[ki]) ?_
 refine W.fix (id:=2) (σ':=[oT,oU]) (Nat.zero_le _) rfl ζ (λid q b5 Ξ=>by
  match id,b5,Ξ with
  | 0,_,Ξ=>simp at Ξ;subst Ξ;simp[e3,η.cells]
  | 1,_,Ξ=>simp at Ξ;subst Ξ;simp[e3,η.cells]) rfl ((10,I 0)::yV s F n lower) (by simp[ki]) ?_
 refine Η ?_;refine aA rfl ?_;refine Η ?_;refine bh λΘ θ=>?_;refine az.d (aω s.aj.length) (bD ?_);apply θ
 repeat apply Ω
 refine W.forget ((25,.fn (.func 126) [] [.ao [I s.aj.length]])::yV s F n lower) ζ ?_;refine W.stop ?_;intro bM bS H1 t1 qE na;have yB:∀r∈[oT,oU],yS r:=λr ι=>by
  simp only[List.mem_cons,List.not_mem_nil,or_false] at ι;rcases ι with rfl|rfl<;>exact⟨_,_,_,rfl⟩
 have b8:=na.cx 25;simp only[a5,if_true] at b8;obtain⟨ay,Bw⟩:=aK (t1.getD 25 undef);rw[<-Bw] at b8;cases b8 with
 | fn w1 nh Ρ aa aX ca=>
 have aΖ:w1=#[]:=Array.eq_empty_of_size_eq_zero (by rw[<-Ρ];rfl);subst aΖ;refine aU.rangeFunc γ rfl rfl (fo:=.tmp 25) Bw.symm ⟨_,Tryz.func126,rfl,rfl⟩ λr1 L J U=>?_;have Jo:¬bS.has r1:=na.holds.Pz yB J;have Fv:=na.holds.bK (y:=.deferred (some [])) Jo;have Fw:Ext bM bS H1 bM bS (H1.bK r1 (.deferred (some []))):=Ext.Py J;have Bx:(H1.bK r1 (.deferred (some []))).obj r1=some (.deferred (some [])):=by simp[Α.bK]
 have aΗ:ei.fresh r1:=qE.ext.grow _ J
 have Fx:ei.fresh L:=qE.ext.grow _ (Fw.grow _ U);generalize jΞ:H1.bK r1 (.deferred (some []))=PD at U Fv Fw Bx;have Fy:r1≠L:=λe=>by rw[e,U.2.2.1] at Bx;cases Bx
 have PE:¬bS.has L:=Fv.Pz yB U
 have PF:∀(S:aL) (B:aW) (H:Α) (σ:List Row),e4 2 bM bS PD [oT,oU] S B H σ->b3 bM S bS B [oT,oU] σ:=λS B H σ κ=>κ.all Fv ζ
 have PG:∀(vo:Frame) (S:aL) (B:aW) (H:Α) (σ:List Row) (env:Χ) (l:List Int) (fZ:Int) (e:Bool) (kk:Nat),vo.fn=28->vo.kind=.normal->vo.mode=.returning->vo.defers=[⟨.collected r1,#[]⟩]->Ext fu [] ei S B H->Holds S B σ H->¬B.has r1->H.obj r1=some (.deferred (some []))->
   dv S B σ env vo.tmps->a5 env 6=.ah 0 1 0 0->a5 env 7=.ah 1 1 0 0->σ[0]?=some (.cells 29 1 [.sl e kk (l.map I)])->σ[1]?=some (.cells 38 1 [I fZ])->vn s F n lower=(l,fZ)->(l≠[]->kk=1)->aU Tryz.prog Q mn x vo (c::rest) H:=
  λvo S B H σ env l fZ e kk eP du gd oA uK aΘ aΙ vf aΚ aΜ aΝ aΞ aΟ aΡ aΤ=>by
  refine aU.collected γ gd oA vf ?_;exact PA γ mf (b:={vo with defers:=[]}) eP du rfl gd (uK.bK aΗ ⟨_,vf⟩) (aΘ.bK aΙ) aΚ aΜ aΝ aΞ aΟ aΡ aΤ
 rw[qB (body:=Tryz.f126.body.getD .skip) Tryz.func126 rfl];have Jp:fQ bM bS [oT,oU] ([sg L]++[.ao [I s.aj.length]]) (#[.func (.yield L) #[] #[]]++nh):=by
  refine fQ.append ⟨rfl,λi a v eP du=>?_⟩ ⟨aa,ca⟩
  match i with
  | 0=>simp at eP du;subst eP;subst du;exact .fn #[] #[] rfl rfl (λi a v hi=>by simp at hi) (λi a v hi=>by simp at hi)
  | i+1=>simp at eP
 refine aι (o:=⟨bM,bS,PD,[oT,oU],2⟩) (L:=L) (Fnd:=λrem=>(k9 s.aj.length 0).find? (rZ s F n lower)=rem.find? (rZ s F n lower)) γ (Nat.le_trans PC br) ?_ rfl bM bS _ _ (e4.of (Ext.Py U) (b3.refl ..)) (fO.enter (Fv.bK PE) Jp (Nat.le_refl _) ζ) PE (by simp[Α.bK];rfl);refine⟨rfl,by simp[e3,η.cells],by simp[e3,η.cells],rfl,λl rem Fz aΥ aO S B H ws jΟ κ Β k8 ai hv aΦ aΧ=>?_,λFz S B H κ Β k8 ai=>?_⟩
 ·obtain⟨Jq,xU⟩:=qM κ.ext Jo Bx;have aΨ:=PF _ _ _ _ κ;have rU:=na.cx.later aΨ;have By:Ext fu [] ei S B H:=qE.ext.trans (Fw.trans κ.ext);obtain⟨w0,rfl⟩:∃w0,ws=#[w0]:=by
   have J:=hv.1;clear hv;obtain⟨wl⟩:=ws
   match wl,J with
   | [w0],_=>exact⟨w0,rfl⟩
  have aΩ:((#[26]:Array Tmp).zip #[w0]).foldl (λtmps (t,a)=>tmps.setIfInBounds t a) t1=t1.setIfInBounds 26 w0:=ζ;change aU Tryz.prog Q mn x (Frame.round L 28 (((#[26]:Array Tmp).zip #[w0]).foldl (λtmps (t,a)=>tmps.setIfInBounds t a) t1) _ _ .normal) _ _;rw[aΩ];have E4:av S B [oT,oU,fD l] (.ms 2 l.length 0 l.length) w0:=hv.2 0 _ _ rfl rfl;have bα:l.length<2 ^ 30:=R;have Bv:dv S B [oT,oU,fD l] ((26,.ms 2 l.length 0 l.length)::yV s F n lower) (t1.setIfInBounds 26 w0):=xc (dv.put rU (d:=26) (by rw[na.size];omega) E4) ζ;refine V.here (b:=Frame.round L 28 t1 .skip .skip .normal) (t:=t1.setIfInBounds 26 w0) (m:=3) (nt:=35) (S:=S) (B:=B) (H:=H) (σ:=[oT,oU,fD l]) (env:=(26,.ms 2 l.length 0 l.length)::yV s F n lower) ?_ ⟨Β,Bv,Eq.trans (Array.size_setIfInBounds ..) na.size,Nat.le_refl _⟩;refine V.fT γ rfl ?_;refine Η ?_;refine W.stop ?_;intro k3 k4 jR t3 hX fC;obtain⟨Bz,BA⟩:=qM hX.ext k8 ai;obtain⟨bβ,bγ⟩:=qM hX.ext Jq xU;refine aU.beginRound γ rfl rfl BA rfl ?_;refine V.here (b:=Frame.round L 28 t1 .skip .skip .normal) (m:=3) (nt:=35) ?_ ⟨fC.holds.bK Bz,fC.cx,fC.size,fC.rows⟩;refine V.fT γ rfl ?_;refine bh λΘ θ=>?_;have c5:aJ 0 (fS s):=ζ;have pq:aJ 0 (cW F):=ζ;have iE:iJ (fD l):=wJ (f:=λn:Nat=>I n) λx=>by simp[η.cells]
  refine ab.one (as0:=[fS s,cW F,I n,a' lower,.ms 0 l.length 0 l.length]) (Ye s ν F ck n cm lower l (Nat.le_trans aΥ PC) aO) 2 rfl iE iE (λa κ=>by
   simp only[List.mem_cons,List.not_mem_nil,or_false] at κ;rcases κ with rfl|rfl|rfl|rfl|rfl
   ·exact c5.iM 1
   ·exact pq.iM 1
   ·exact(aJ.z _).iM 1
   ·exact(aJ.z _).iM 1
   ·exact oH.2 R) ((aJ.z _).iM 1) (by simp[oI,nX,c5.ed [2],pq.ed [2]]) ?_
  simp[nX];(repeat (rw[al];simp[]));apply θ;have Jr:b3 S k3 B k4 [oT,oU,fD l] [oT,oU,fD l]:=hX.all Β (Nat.le_refl _);have BB:=λy=>(κ.ext.trans hX.ext).bK U (y:=y) ⟨_,BA⟩;have bδ:=λy=>(By.trans hX.ext).bK Fx (y:=y) ⟨_,BA⟩;cases PH:rZ s F n lower l
  ·refine aA rfl ?_
   repeat apply Ω
   refine W.stop ?_;intro jg ko ie t5 kP lN;obtain⟨BC,BD⟩:=qM kP.ext Bz (show(jR.bK L _).obj L=some (.loop _) by simp[Α.bK];rfl);have FA:=kP.all (fC.holds.bK Bz) (Nat.le_refl _);refine aU.endRound γ rfl rfl rfl BD (jump:=none) (.inl ⟨rfl,rfl⟩) (aΦ (by rw[Fz,List.find?_cons,PH]) jg ko _ ⟨((BB _).trans kP.ext).bK U ⟨_,BD⟩,?_⟩ (Jr.trans FA) (lN.holds.bK BC) BC (by simp[Α.bK]));exact κ.later.trans (Jr.trans FA)
  ·refine aD rfl ?_;obtain⟨z,Φ⟩:=aK (l.map λn:Nat=>(n:Int));have bε:fD l=.cells 3 1 (z.map I):=by rw[Φ,List.map_map];rfl
   have lA:z.length=l.length:=by rw[Φ,List.length_map]
   have PI:=X8 z (by rw[lA];exact bα);rw[lA,<-bε] at PI;have PJ:∀(e:Bool) (k:Nat),aJ 0 (.sl e k (z.map I)):=λe k=>ζ;refine bh λΘ θ=>?_;refine ab.Ig (as0:=[.ms 0 l.length 0 l.length]) PI 2 rfl iE (by simp[oH]) (by simp[oI]) (λa bk an=>?_);obtain⟨⟨e,kk,rfl,rF⟩,rfl⟩:=an;refine⟨fD l,rfl,iE,(PJ e kk).iM 1,?_⟩;rw[(PJ e kk).ed [2]];simp;(repeat (rw[al];simp[]));apply θ;refine W.stop ?_;intro jg ko ie t5 kP lN;obtain⟨BC,BD⟩:=qM kP.ext Bz (show(jR.bK L _).obj L=some (.loop _) by simp[Α.bK];rfl);obtain⟨PK,bζ⟩:=qM kP.ext bβ (show(jR.bK L _).obj r1=some (.deferred (some [])) by simp[Α.bK,Fy,bγ]);have FA:=kP.all (fC.holds.bK Bz) (Nat.le_refl _);refine aU.endRound γ rfl rfl rfl BD (jump:=some .ret) (.inr (.inl ⟨rfl,_,rfl⟩)) (aΧ _ λjΡ jΤ PL=>?_);obtain⟨eP,du⟩:=(lN.holds.bK (y:=.loop _) BC).sR (λb hb=>PL.sR hb) PL.grow;obtain⟨bη,PM⟩:=qM du BC (show(ie.bK L _).obj L=some (.loop _) by simp[Α.bK];rfl);obtain⟨_,bθ⟩:=qM du PK (show(ie.bK L _).obj r1=some (.deferred (some [])) by simp[Α.bK,Fy,bζ]);refine aU.Oi (b:={Jm vs with defers:=[⟨.collected r1,#[]⟩]}) (t:=t1) γ rfl PM ζ ?_;refine aU.ret (b:={Jm vs with defers:=[⟨.collected r1,#[]⟩]}) γ rfl rfl ?_;refine PG _ jg ko _ _ (yV s F n lower) z 0 e kk rfl rfl rfl rfl ((((((bδ _).trans kP.ext).bK Fx ⟨_,BD⟩)).trans du).bK Fx ⟨_,PM⟩) (eP.bK bη) PK (by simp[Α.bK,Fy,bθ]) (xc ((rU.later (Jr.trans FA))) ζ) rfl rfl rfl rfl ?_ rF;rw[Δ,Fz,List.find?_cons,PH,Φ]
 ·obtain⟨Jq,xU⟩:=qM κ.ext Jo Bx;have rU:=na.cx.later (PF _ _ _ _ κ);have pe:Ext fu [] ei S B H:=qE.ext.trans (Fw.trans κ.ext);refine aU.Oi (b:={Jm vs with defers:=[⟨.collected r1,#[]⟩]}) (t:=t1) γ rfl ai ζ ?_;refine V.here (m:=0) (nt:=35) (S:=S) (B:=B) (σ:=[oT,oU]) (env:=yV s F n lower) ?_ ⟨Β.bK k8,xc rU ζ,na.size,Nat.zero_le _⟩;refine V.fT γ rfl ?_;simp only[Option.map_none,Option.toList_none,List.nil_append];refine Η ?_;refine W.stop ?_;intro jg ko ie t5 kP lN;have bι:∀y,(H.bK L y).obj r1=some (.deferred (some [])):=λy=>by simp[Α.bK,Fy,xU]
  obtain⟨k1,cp⟩:=qM kP.ext Jq (bι _);refine aU.ret γ rfl rfl ?_;refine PG _ jg ko ie _ _ [] 11 true 0 rfl rfl rfl rfl ((pe.bK Fx ⟨_,ai⟩).trans kP.ext) lN.holds k1 cp lN.cx rfl rfl rfl rfl ?_ (λh=>absurd rfl h);rw[Δ,Fz];rfl
end
end Go.TL
namespace Go.TL
open Go.Proofs
variable [bp]
def fx:aS:=⟨[⟨⟨#[98]⟩,9⟩,⟨⟨#[99]⟩,4⟩,⟨⟨#[100]⟩,6⟩,⟨⟨#[105]⟩,48⟩,⟨⟨#[111]⟩,12⟩],[[1,2],[0],[0,1,2]],[[⟨0,4,59⟩,⟨1,8,3⟩],[⟨0,0,63⟩,⟨1,4,8⟩]]⟩
theorem BE:az Tryz.prog 72 [] (fS fx):=by
 refine ab.body Υ Tryz.func72 rfl rfl Tryz.ntmps72 rfl rfl ζ ?_
 repeat apply Ω
 refine dB (A:=[0]) Υ λΘ θ=>bD ?_;apply θ
 repeat apply Ω
 refine bh λΘ θ=>?_;apply θ;refine W.fix (id:=0) (σ':=[]) (Nat.zero_le _) rfl ζ ζ rfl [(0,.ao [.sl true 2 [eU ⟨⟨#[98]⟩,9⟩,eU ⟨⟨#[99]⟩,4⟩,eU ⟨⟨#[100]⟩,6⟩,eU ⟨⟨#[105]⟩,48⟩,eU ⟨⟨#[111]⟩,12⟩],.sl true 1 [mq [1,2],mq [0],mq [0,1,2]],.sl true 1 [.sl true 3 [eB ⟨0,4,59⟩,eB ⟨1,8,3⟩],.sl true 3 [eB ⟨0,0,63⟩,eB ⟨1,4,8⟩]]])] ζ ?_;refine W.rt ?_;refine .a0 (.cons .ex (.cons ?_ (.cons ?_ .nil)))
 ·exact .map (l:=[[1,2],[0],[0,1,2]]) (f:=mq) λx _=>.one .ex rfl rfl
 ·exact .map (l:=[[⟨0,4,59⟩,⟨1,8,3⟩],[⟨0,0,63⟩,⟨1,4,8⟩]]) (f:=λl:List c8=>.sl true 3 (l.map eB)) λx _=>.one .ex rfl rfl
end Go.TL
namespace Go.TL
open Go.Conc Go.Proofs
open Go.ConcN (sumTo upd sumTo_upd upd_ne upd_same sumTo_congr le_sumTo)
variable [bp]
section
variable {P:Program} {Q:Value->Prop} {mn:Bool} {y:a2} {f f' b:Frame} {cs cs':List Frame} {H:Α} {t:Array Value} {k:List Item} {ops:Array Oper} {i:Nat} {rest:List Nat} {op:Oper}
theorem cC.quiet (γ:e7 y) (ν:∀w,stepG P mn (Go.Conc.G f cs) w=.go (Go.Conc.G f' cs') w #[]) (h:cC P Q mn y f' cs' H):cC P Q mn y f cs H:=
 Quiet.goes (.cons ⟨rfl,rfl⟩ ν (.nil _)) γ ⟨rfl,rfl⟩ h
theorem cC.next (γ:e7 y) (hb:b.mode=.run) {id:Nat} {Js:Array Oper} {c:Code} (h:cC P Q mn y (ax b t (.inRegion Js (List.range Js.size)::.code c::k)) cs H):cC P Q mn y (ax b t (.inRegion ops []::.code (.seq (.region id Js false) c)::k)) cs H:=
 .quiet γ (λw=>(jN hb w).trans rfl) (.quiet γ (λw=>(jN hb w).trans rfl) (.quiet γ (λw=>(jN hb w).trans rfl) h))
theorem bκ {ty:TypeId} {inf:TypeInfo} {z:Value} (hi:P.info? ty=some inf) (Φ:inf.zero=some z) (w:World) :
  (Instr.alloc ty true (.tuple #[])).run P w=.ok (ptr w.heap.size 0) (w.alloc (.cells z.cells ty (0,0)))/\∀es,(Instr.alloc ty true (.tuple #[])).events P w es=es:=by
 constructor
 ·simp[Instr.alloc,zeroValue,typeInfo,newVar,newRow,hi,Φ,Result.andThen]
 ·intro es;simp[Instr.alloc,zeroValue,typeInfo,newVar,newRow,hi,Φ,Result.andThen,Result.evThen]
theorem cC.Jt {ty:TypeId} {inf:TypeInfo} {z:Value} (eu:y.rel=false) (bY:ni b ops i op) (Μ:op.op=.alloc ty) (Ο:op.guard=none) (hi:P.info? ty=some inf) (Φ:inf.zero=some z)
  (h:∀r,H.fresh r->(∀Ψ v,y.aN Ψ=some v->Ψ<r)->cC P Q mn {y with aN:=upd y.aN r (some (z.cells,ty))} (ax b (put op t (ptr r 0)) (.inRegion ops rest::k)) cs H):cC P Q mn y (ax b t (.inRegion ops (i::rest)::k)) cs H:=by
 refine Goes.step (e7.ok (.inl eu)) (.inr ⟨⟨rfl,rfl⟩,.inl λw Τ hv=>?_⟩);obtain⟨r1,r2⟩:=bκ (P:=P) hi Φ w;have hw:Region.wanted op (yielded ops t)=true:=by unfold Region.wanted;rw[Ο]
 have zZ:stepG P mn (Go.Conc.G (ax b t (.inRegion ops (i::rest)::k)) cs) w=.go (Go.Conc.G (ax b (put op t (ptr w.heap.size 0)) (.inRegion ops rest::k)) cs) (w.alloc (.cells z.cells ty (0,0))) #[]:=by
  have e:execOp (bl t) op=(do pure (.value (<-Instr.alloc ty true (.tuple #[])))):=by unfold execOp;rw[Μ]
  rw[gX bY.run bY.ro,gX bY.run bY.ro,<-va];have ι:(execOp (⟨t,b.defers⟩:_root_.Go.Act).eval op).run P w=.ok (.value (ptr w.heap.size 0)) (w.alloc (.cells z.cells ty (0,0))):=by rw[mB,e];simp[r1,Result.andThen]
  have he:(execOp (⟨t,b.defers⟩:_root_.Go.Act).eval op).events P w #[]=#[]:=by rw[mB,e];simp[r1,r2,Result.evThen]
  rw[stepG_value bY.op hw bY.kd ι];unfold listed;rw[he,seen_none]
 rw[zZ];have hu:=(ec.start Τ).row z.cells ty;have BF:Α.fresh H w.heap.size:=Τ.fresh;have kC:Sub H (H.dL w.heap.size z.cells ty):=by
  refine⟨λΨ o v p hb=>⟨p,?_,id⟩,λΨ x hb=>?_,λΨ x hb=>hb⟩
  ·have:Ψ≠w.heap.size:=λe=>by rw[e,BF.1 o] at hb;cases hb
   simpa[Α.dL,this] using hb
  ·have:Ψ≠w.heap.size:=λe=>by rw[e,BF.2.1] at hb;cases hb
   simpa[Α.dL,this] using hb
 have aO:∀Ψ v,y.aN Ψ=some v->Ψ<w.heap.size:=λΨ v hb=>by
  have:=hv Ψ v.1 v.2 hb;exact(Array.getElem?_eq_some_iff.1 this).1
 refine⟨H,upd y.aN w.heap.size (some (z.cells,ty)),⟨rfl,rfl⟩,hu.keeps,kC.fits hu.fit,λΨ c' t' hb=>?_,⟨λΨ o v p hb=>.inr ⟨v,p,hb,id⟩,λΨ hb=>.inr hb⟩,λΨ c' hb=>?_,λe he=>by simp at he,λΨ c' _ _ e he=>by simp at he,h _ BF aO⟩
 ·by_cases e:Ψ=w.heap.size
  ·subst e;rw[upd_same] at hb;cases hb;exact C0
  ·rw[upd_ne _ _ e] at hb;have J:=hv Ψ c' t' hb;have U:=aO Ψ _ hb;show(w.heap.push _)[Ψ]?=_;rw[Array.getElem?_push_lt U];rw[ff U] at J;exact J
 ·by_cases e:Ψ=w.heap.size
  ·exact .inr ⟨Nat.le_of_eq e.symm,⟨λo ⟨x,γ⟩=>(by rw[e,BF.1 o] at γ;cases γ),λ⟨x,γ⟩=>(by rw[e,BF.2.2.1] at γ;cases γ)⟩⟩
  ·rw[upd_ne _ _ e] at hb;exact .inl hb
theorem bμ {B:Type} {s:Nat}:upd (λ_=>(none:Option B)) s none=λ_=>none:=by
 funext i
 by_cases e:i=s
 ·subst e;exact upd_same ..
 ·exact upd_ne _ _ e
theorem cC.group {sp:Spec} {s m o:Nat} {ty Ju BG:TypeId} {c:Array Value} (eu:y.rel=false) (fX:y.aN=λ_=>none) (sI:m<s) (Jv:s<o) (fA:sp.aZ=some m) (ya:H.fresh o) (cR:sp.ar [] (Α.empty.dL o c BG))
  (h:cC P Q mn {y with tok:=upd y.tok s (.par 0 0 .add),spec:=upd y.spec s (some sp),view:=upd y.view s none} f cs H) :
  cC P Q mn {y with aN:=upd (upd (upd y.aN m (some (#[.int .i32 0,.int .u32 0],Ju))) s (some (#[.int .u64 0,.int .u32 0],ty))) o (some (c,BG))} f cs H:=by
 have h7:s≠o:=Nat.ne_of_lt Jv
 have gm:m≠o:=R
 have CQ:m≠s:=Nat.ne_of_lt sI;refine Goes.step (e7.ok (.inl eu)) (.inr ⟨⟨rfl,rfl⟩,.inr (.inr (.inr (.inr (.inr (.inr (.inr (.inr (.inr (.inr (.inl ⟨o,c,BG,upd_same ..,?_⟩))))))))))⟩);refine Goes.step (e7.ok (.inl eu)) (.inr ⟨⟨rfl,rfl⟩,.inr (.inr (.inr (.inr (.inr (.inr (.inr (.inr (.inr (.inr (.inr ⟨s,sp,ty,H,Α.empty.dL o c BG,?_,λcb dk=>?_,eu,?_,λ_=>cR,?_⟩))))))))))⟩)
 ·show upd (upd _ o _) o none s=_;rw[upd_ne _ _ h7,upd_ne _ _ h7,upd_same]
 ·rw[fA] at dk;cases dk;refine⟨CQ,Ju,?_⟩;show upd (upd _ o _) o none m=_;rw[upd_ne _ _ gm,upd_ne _ _ gm,upd_ne _ _ CQ,upd_same]
 ·refine⟨⟨λΨ q v p hb=>⟨p,?_,id⟩,λΨ x hb=>?_,λΨ x hb=>hb⟩,⟨λΨ q v p hb=>⟨p,?_,id⟩,λΨ x hb=>?_,λΨ x hb=>(by cases hb)⟩,⟨λΨ q ⟨v,hv⟩ ⟨x,γ⟩=>?_,λΨ q ⟨v,hv⟩ ⟨x,γ⟩=>?_,λΨ _ ⟨x,γ⟩=>(by cases γ)⟩⟩
  ·have:Ψ≠o:=λe=>by rw[e,ya.1 q] at hb;cases hb
   simpa[this] using hb
  ·have:Ψ≠o:=λe=>by rw[e,ya.2.1] at hb;cases hb
   simpa[this] using hb
  ·by_cases e:Ψ=o
   ·simpa[Α.dL,e] using hb
   ·simp[Α.dL,e,Α.empty] at hb
  ·by_cases e:Ψ=o
   ·simpa[Α.dL,e] using hb
   ·simp[Α.dL,e,Α.empty] at hb
  ·by_cases e:Ψ=o
   ·rw[e,ya.1 q] at hv;cases hv
   ·simp[Α.dL,e,Α.empty] at γ
  ·by_cases e:Ψ=o
   ·rw[e,ya.1 q] at γ;cases γ
   ·simp[Α.dL,e,Α.empty] at hv
 ·have e:(λΨ=>if Ψ=s\/sp.aZ=some Ψ then none else upd (upd (upd (upd y.aN m (some (#[.int .i32 0,.int .u32 0],Ju))) s (some (#[.int .u64 0,.int .u32 0],ty))) o (some (c,BG))) o none Ψ)=y.aN:=by
   funext Ψ
   rw[fX];by_cases Γ:Ψ=s\/sp.aZ=some Ψ
   ·rw[if_pos Γ]
   ·rw[if_neg Γ];rw[fA] at Γ;have Δ:Ψ≠s:=λe=>Γ (.inl e);have a4:Ψ≠m:=λe=>Γ (.inr (by rw[e]));by_cases cM:Ψ=o
    ·rw[cM,upd_same]
    ·rw[upd_ne _ _ cM,upd_ne _ _ cM,upd_ne _ _ Δ,upd_ne _ _ a4]
  have c9:Goes P Q mn (Go.Conc.G f cs) {y with G:=H,aN:=y.aN,tok:=upd y.tok s (.par 0 0 .add),spec:=upd y.spec s (some sp),view:=upd y.view s none}:=h;rw[<-e] at c9;exact c9
theorem cC.GP {s n p:Nat} {sp:Spec} {g:FuncId} {nh:Array Value} (eu:y.rel=false) (uD:y.deaf=0) (b7:y.spec s=some sp) (Ν:y.tok s=.par n (p+1) .add) (bY:ni b ops i op) (Ο:op.guard=none) {fo:Operand} {ej:Array TypeId} (Μ:op.op=.go ⟨.value fo,#[],ej⟩) (rJ:op.dst=none)
  (hv:bl t fo=.func (.func g) #[] nh) {S:aL} (Β:Holds S [] [] H) (J:cC P Q mn {y with tok:=upd y.tok s (.par n p .add),view:=upd y.view s none} (ax b t (.inRegion ops rest::k)) cs (se S H))
  (U:Goes P Q false (born P ⟨.fn (.func g) nh,#[]⟩) {bu (mE s sp) s (.ch (n-(p+1)) .idle .work) none 0 with G:=nu S}):cC P Q mn y (ax b t (.inRegion ops (i::rest)::k)) cs H:=by
 have hw:Region.wanted op (yielded ops t)=true:=by unfold Region.wanted;rw[Ο]
 have zZ:∀w,stepG P mn (Go.Conc.G (ax b t (.inRegion ops (i::rest)::k)) cs) w=.spawn (Go.Conc.G (ax b t (.inRegion ops rest::k)) cs) (born P ⟨.fn (.func g) nh,#[]⟩) w #[]:=λw=>by
  have e:execOp (bl t) op=(do pure (.spawn (<-Deferred.ofValue (bl t fo) (#[].map (bl t))))):=by unfold execOp;rw[Μ];rfl
  rw[gX bY.run bY.ro,gX bY.run bY.ro];have ι:(execOp (⟨t,b.defers⟩:_root_.Go.Act).eval op).run P w=.ok (.spawn ⟨.fn (.func g) nh,#[]⟩) w:=by rw[mB,e,hv];simp[Deferred.ofValue,Result.andThen]
  have he:(execOp (⟨t,b.defers⟩:_root_.Go.Act).eval op).events P w #[]=#[]:=by rw[mB,e,hv];simp[Deferred.ofValue,Result.andThen,Result.evThen]
  rw[stepG_spawn (a:=⟨t,b.defers⟩) bY.op hw bY.kd ι rfl];have:(⟨t,b.defers⟩:_root_.Go.Act).put op.dst undef=⟨t,b.defers⟩:=by rw[rJ];rfl
  rw[this];unfold listed;rw[he,seen_none]
 refine Goes.step (e7.ok (.inl eu)) (.inr ⟨⟨rfl,rfl⟩,.inr (.inr (.inr (.inr (.inr (.inr (.inr (.inr (.inl ⟨s,sp,n,p,Go.Conc.G (ax b t (.inRegion ops rest::k)) cs,born P ⟨.fn (.func g) nh,#[]⟩,se S H,nu S,b7,Ν,uD,⟨rfl,rfl⟩,⟨rfl,rfl⟩,eu,λw _=>zZ w,ZU Β,J,?_⟩))))))))⟩);have e:({bu (mE s sp) s (.ch (n-(p+1)) .idle .work) none 0 with G:=nu S}:a2)=⟨nu S,λ_=>none,upd (λ_=>.nil) s (.ch (n-(p+1)) .idle .work),upd (λ_=>none) s (some sp),λ_=>none,0,false⟩:=by
  unfold bu;simp only[bμ]
 rw[<-e];exact U
end
end Go.TL
namespace Go.TL
open Go.Conc Go.Proofs
open Go.ConcN (sumTo upd sumTo_upd upd_ne upd_same sumTo_congr le_sumTo)
noncomputable def yW:Code:=Tryz.f116.body.getD .skip
noncomputable def PN:Code:=ea [1,1,1,1,0,1,0,0,1,1,0,0,1,1,0,0,1,1,0,0,1] yW
noncomputable abbrev FB (vs:Array Value):Frame:=Frame.enter Tryz.prog 116 vs .normal
abbrev env0 (s m o:Nat) (er:aS) (rest:Χ):Χ:=(5,.z (ptr o 0))::(4,.z (ptr s 0))::(3,.z (ptr m 0))::(1,.ao [aT er.ae,a6 er.aj,bx er.cells])::rest
abbrev yX (s m o:Nat) (er:aS) (a b:Int) (rest:Χ):Χ:=(7,.ao [I b])::(6,.ao [I a])::env0 s m o er rest
structure FC (er:aS) (fd:Nat->Option Found) (pr:Nat->Int×Int) (F:Nat->Found) (N:Nat->Nat):Prop where
 look:∀k,k<3->∀c:bp,@az c Tryz.prog 143 [fS er,aG (pr k)] (dg (F k))
 many:∀k,k<3->∀c:bp,@az c Tryz.prog 78 [dg (F k),I (-1)] (I (N k))
 fd:∀k,fd k=if k<3/\0<N k then some (F k) else none
theorem FC.n1 {er:aS} {fd:Nat->Option Found} {pr:Nat->Int×Int} {F:Nat->Found} {N:Nat->Nat} (h:FC er fd pr F N) (L:List Nat) (Ζ:L.Nodup):(L.filterMap fd).length<=3:=by
 have J:L.filterMap fd=(L.filter (· < 3)).filterMap fd:=by
  rw[List.filterMap_filter];congr 1
  funext k
  by_cases e:k<3
  ·simp[e]
  ·simp[e,h.fd k]
 rw[J];refine Nat.le_trans (List.length_filterMap_le ..) ?_;have U:(L.filter (· < 3)).Nodup:=Ζ.filter _;exact LJ 3 _ U λk χ=>by simpa using (List.mem_filter.1 χ).2
variable [bp]
theorem V.boxed {P:Program} {Q:Value->Prop} {mn:Bool} {z:g9} {b:Frame} {cs:List Frame} {nt:Nat} {o:Base} {k:List Item} {env:Χ} {σ:List Row} {ops:Array Oper} {i:Nat} {rest:List Nat} {op:Oper}
  (γ:Seq z) (hb:b.mode=.run) (cu:b.roundOf=none) (ψ:ops[i]?=some op) (Ο:op.guard=none) {ty:TypeId} {xd:Operand} (Μ:op.op=.box ty xd) {l:List η} (κ:aR env xd=.a0 l) (dQ:l.all (η.bc [])=true) (bA:0<l.length)
  (h:∀(S:aL) (B:aW) (H:Α) (t:Array Value) (r:Nat) (c:Array Value),e4 o.m o.S o.B o.H o.σ S B H σ->fO o.m nt S B H σ env t->H.fresh r->(∃v,(S.lay r c) r 0=some v)->b3 S (S.lay r c) B B σ σ->Ext S B H (S.lay r c) B (H.dL r c ty)->Holds (S.lay r c) B σ (H.dL r c ty)->av (S.lay r c) B σ (.ao l) (ptr r 0)->
   aU P Q mn z (ax b (put op t (ptr r 0)) (.inRegion ops rest::k)) cs (H.dL r c ty)):V P Q mn z b cs nt o (.inRegion ops (i::rest)::k) env σ:=by
 intro S B H t bν π;refine .op γ hb ψ (by unfold Region.wanted;rw[Ο]) (.inl cu) ?_;have e:execOp (bl t) op=(do pure (.value (<-Instr.box ty (bl t xd)))):=by unfold execOp;rw[Μ]
 have ι:=l' π.cx xd;rw[κ] at ι;rw[e];refine ς.bind' ?_;unfold Instr.box;refine ς.bind' ?_;unfold newVar newRow;have PO:=x4 (σ:=σ) dQ;have cv:=(ι.cells (a:=.a0 l) PO).1;refine ς.bind' ⟨rfl,λr ft=>ς.pure' (ς.pure' (ς.pure' ?_))⟩;obtain⟨J,U,μ⟩:=π.holds.lay (c:=(bl t xd).cells) (t:=ty) ft;have aO:0<(bl t xd).cells.size:=by rw[cv];exact bA
 exact h S B H t r _ bν π ft ⟨(bl t xd).cells[0],by simp[aL.lay,aO]⟩ μ U J (Mv μ (gb.one ι PO))
section
variable {y:a2} {Q:Value->Prop} {mn:Bool} {β s m o n:Nat} {bM:aL} {H1:Α} {fd:Nat->Option Found} {pr:Nat->Int×Int} {F:Nat->Found} {N:Nat->Nat} {sp:Spec} {er:aS} {v:Option (Nat×aV)} {vs:Array Value} {cs:List Frame} {k:List Item} {rest:Χ}
theorem Jw {a b:Int} (eO:pr n=(a,b)) (ε:mD y s sp) (fA:sp.aZ=some m) (cR:sp.ar=w9 β bM o fd) (cY:∀k,sp.D k Α.empty) (gY:sp.top=3) (Ζ:n<3) (cB:FC er fd pr F N) (qE:∃q v,bM β q=some v) (rR:∃q x,H1.aP β q=some x) (ι:∀p∈rest,p.1∉[16,15,7,6,5,4,3,1]/\a5 rest p.1=p.2)
  (χ:V Tryz.prog Q mn (one (bu y s (.par (n+1) 0 .add) none 0)) (FB vs) cs 23 ⟨bM,[],H1,[],0⟩ k ((6,.ao [I a])::env0 s m o er rest) []) :
  V Tryz.prog Q mn (one (bu y s (.par n 0 .add) v 0)) (FB vs) cs 23 ⟨bM,[],H1,[],0⟩ (.code PN::k) (yX s m o er a b rest) []:=by
 letI:bp:=eX;obtain rfl:a=(pr n).1:=by rw[eO]
 obtain rfl:b=(pr n).2:=by rw[eO]
 have γ:=ε.seq;refine V.fT (γ _ _ _) rfl ?_;simp only[PN,yW,Tryz.f116,Option.getD_some,ea];refine c7 ?_;refine W.cy (.stop ?_);refine V.call (γ _ _ _) ⟨rfl,rfl,by simp[Frame.enter],rfl⟩ rfl rfl rfl ⟨_,Tryz.func140,rfl,rfl⟩ λS B H t pB κ π hv=>?_;obtain rfl:=nj (l:=[ptr s 0,.int .i64 1]) hv;obtain rfl:B=[]:=dO.1 π.holds.len;rintro md rfl;refine Zn ε R π.holds λv2 cU bH g2 jL=>?_;rw[iY rfl];have nY:b3 S cU [] [] [] []:=⟨g2.dm,λid r h=>by simp at h⟩;refine V.here (x:=one _) (m:=0) (nt:=23) (S:=cU) (B:=[]) (σ:=[]) (env:=(15,.z (.tuple #[]))::yX s m o er (pr n).1 (pr n).2 rest) ?_ ⟨jL,dv.later (dv.put π.cx (d:=15) (by rw[π.size];omega) (.z (.tuple #[]))) nY,Eq.trans (Array.size_setIfInBounds ..) π.size,Nat.zero_le _⟩ _ rfl;refine V.fT (γ _ _ _) rfl ?_;refine W.bF ?_;refine W.cy ?_;refine fw [0] [1] ?_;refine W.stop ?_;intro k3 k4 jR t3 hX fC;obtain rfl:k4=[]:=dO.1 fC.holds.len;rintro md rfl;have b8:=fC.cx 16;simp only[a5,if_true] at b8;obtain⟨ay,Bw⟩:=aK (t3.getD 16 undef);rw[<-Bw] at b8;have Jx:e4 0 bM [] H1 [] k3 [] jR []:=κ.trans ((e4.of g2 nY).trans hX);cases b8 with
 | fn w1 w2 Ρ aa aX ca=>
  have Γ:w1=#[]:=Array.eq_empty_of_size_eq_zero (by rw[<-Ρ];rfl);subst Γ;obtain⟨l2⟩:=w2
  match l2,aa with
  | [PQ,v9,kg,ry,bξ,bο],_=>
   have vk:PQ=ptr s 0:=by have:=ca 0 _ _ rfl rfl;cases this;rfl
   have bπ:bξ=ptr m 0:=by have:=ca 4 _ _ rfl rfl;cases this;rfl
   have bρ:bο=ptr o 0:=by have:=ca 5 _ _ rfl rfl;cases this;rfl
   subst vk;subst bπ;subst bρ;have Jj:fQ k3 [] [] (Je s m o er (pr n).1 (pr n).2) (Fo s m o v9 kg ry):=⟨rfl,λi a v J U=>ca i a v J U⟩;refine cC.GP (s:=s) (n:=n+1) (p:=0) (sp:=sp) ε.rel rfl ε.spec cf ⟨rfl,rfl,by simp[Frame.enter],rfl⟩ rfl rfl rfl Bw.symm (S:=k3) fC.holds ?_ ?_
   ·rw[hj];have ν:=ZX fC.holds;have bς:∀g:η,∀p∈(6,.ao [I (pr n).1])::env0 s m o er rest,a5 ((16,g)::(15,.z (.tuple #[]))::yX s m o er (pr n).1 (pr n).2 rest) p.1=p.2:=λg p π=>by
     simp only[env0,List.mem_cons] at π;rcases π with rfl|rfl|rfl|rfl|rfl|π<;>first|rfl|skip
     obtain⟨J,U⟩:=ι p π;simp only[List.mem_cons,List.not_mem_nil,or_false,not_or] at J;obtain⟨c1,c2,c3,c4,nO,sY,rG,bτ⟩:=J;simp only[a5,Ne.symm c1,Ne.symm c2,Ne.symm c3,Ne.symm c4,Ne.symm nO,Ne.symm sY,Ne.symm rG,Ne.symm bτ,if_false];exact U
    refine V.fT (γ (.par (n+1) 0 .add) none 0) rfl (W.bF (W.forget ((6,.ao [I (pr n).1])::env0 s m o er rest) (bς _) (.stop χ))) k3 [] _ t3 (Jx.trans (e4.of ν (b3.refl ..))) ⟨ZV fC.holds,fC.cx,fC.size,Nat.zero_le _⟩ _ rfl
   ·refine aα fA R cR (cY _) (cB.look n Ζ) (cB.many n Ζ) ?_ (λL ai=>?_) ?_ (λb q u hu=>?_) Jj
    ·show fd n=_;rw[cB.fd n];simp[Ζ]
    ·rw[List.length_map];have:=cB.n1 L ai;omega
    ·obtain⟨q,u,hu⟩:=qE;exact⟨q,u,Jx.ext.dm _ _ _ hu⟩
    ·obtain⟨h8,PQ,Fq⟩:=rR;rcases Jx.ext.rv b q u hu with h|⟨N,h⟩|h
     ·exact .inl (by rw[h];simp)
     ·simp at h
     ·exact .inr (Jb Fq h)
end
end Go.TL
