import Derived.Conc.Own2
import Derived.Test.YtlabjopijpkiaaaGreatUAR
import Derived.Test.YtlabjopijpkiaaaGreatUAS
import Derived.Test.YtlabjopijpkiaaaGreatUAT
import Derived.Test.YtlabjopijpkiaaaGreatUAW
set_option maxHeartbeats 16000000
set_option maxRecDepth 20000
set_option linter.unusedSectionVars false
set_option linter.unusedSimpArgs false
set_option linter.unusedVariables false
namespace Go.TL
open Go.Conc
open Go.ConcN (upd)
def rZ (S:aH) (H:χ):χ:={H with aL:=λb o=>match S b o with|some v=>some (v,false)|none=>H.aL b o}
def m7 (S:aH):χ:=⟨λb o=>(S b o).map (·,false),λ_=>none,λ_=>none⟩
def aH.plus (S T:aH):aH:=λb o=>match S b o with|some v=>some v|none=>T b o
structure nN (β:Nat) (bM:aH) (E:χ):Prop where
 aL:∀b o x,E.aL b o=some x->bM b o≠none\/β<b
 row:∀b x,E.row b=some x->β<b
 obj:∀b x,E.obj b=some x->β<b
def yz (r:Row):Prop:=∃t k l,r=.cells t k l
section
variable {S aA hJ fq bM:aH} {B B':aU} {σ σ':List Row} {H H' dS E G:χ} {β:Nat}
theorem A' {b o:Nat} {v:Value} (h:S b o=some v):(rZ S H).aL b o=some (v,false):=by simp only[rZ,h]
theorem JA {b o:Nat} (h:S b o=none):(rZ S H).aL b o=H.aL b o:=by simp only[rZ,h]
theorem JB {b o:Nat} {v:Value} (h:S b o=some v):(m7 S).aL b o=some (v,false):=by simp only[m7,h];rfl
theorem Ff {b o:Nat} {x:Value×Bool} (h:(m7 S).aL b o=some x):∃v,S b o=some v/\x=(v,false):=by
 cases ν:S b o with
 | none=>simp[m7,ν] at h
 | some v=>exact⟨v,rfl,by simp[m7,ν] at h;exact h.symm⟩
theorem Ba {b o:Nat} {v:Value} (h:S b o=some v):S.plus hJ b o=some v:=by simp only[aH.plus,h]
theorem Fg {b o:Nat} (h:S b o=none):S.plus hJ b o=hJ b o:=by simp only[aH.plus,h]
theorem join_some {b o:Nat} {x:Value×Bool} (h:H.aL b o=some x):(join H E).aL b o=some x:=by simp only[join,h]
theorem join_none {b o:Nat} (h:H.aL b o=none):(join H E).aL b o=E.aL b o:=by simp only[join,h]
theorem aΦ {b:Nat} {x:TypeId×Nat} (h:(join H E).row b=some x):H.row b=some x\/E.row b=some x:=by
 cases κ:H.row b with
 | none=>simp only[join,κ] at h;exact .inr h
 | some y=>simp only[join,κ] at h;exact .inl h
theorem aΧ {b:Nat} {x:Obj} (h:(join H E).obj b=some x):H.obj b=some x\/E.obj b=some x:=by
 cases κ:H.obj b with
 | none=>simp only[join,κ] at h;exact .inr h
 | some y=>simp only[join,κ] at h;exact .inl h
theorem aΨ (ω:Holds S [] [] H):Split H (rZ S H) (m7 S):=by
 refine⟨⟨λb o v p h=>?_,λb x h=>h,λb x h=>h⟩,⟨λb o v p h=>?_,λb x h=>(by cases h),λb x h=>(by cases h)⟩,⟨λb o ⟨v,h⟩ ⟨x,k⟩=>?_,λb o ⟨v,h⟩ _=>?_,λb _ ⟨x,h⟩=>(by cases h)⟩⟩
 ·cases ν:S b o with
  | some u=>
   rw[A' ν] at h;cases h;obtain⟨fF,ψ⟩:=ω.di b o _ ν;exact⟨fF,ψ,λe=>by cases e⟩
  | none=>rw[JA ν] at h;exact⟨p,h,id⟩
 ·obtain⟨u,ν,e⟩:=Ff h;cases e;obtain⟨fF,ψ⟩:=ω.di b o _ ν;exact⟨fF,ψ,λe=>by cases e⟩
 ·obtain⟨u,ν,e⟩:=Ff k;rw[A' ν] at h;cases h
 ·obtain⟨u,ν,e⟩:=Ff h;cases e
theorem aΩ (ω:Holds S [] [] H):Holds S [] [] (rZ S H):=
 ⟨λb o v h=>⟨false,A' h⟩,rfl,λid r bo h=>by simp at h,λi j et cg b gN gO _ h=>by simp at h,λid r b N h=>by simp at h⟩
theorem bα:Holds S [] [] (m7 S):=
 ⟨λb o v h=>⟨false,JB h⟩,rfl,λid r bo h=>by simp at h,λi j et cg b gN gO _ h=>by simp at h,λid r b N h=>by simp at h⟩
theorem bβ (ω:Holds S [] [] H):Ext S [] H S [] (rZ S H):=by
 refine⟨λ_ _ _ h=>h,λb _ _=>⟨λo=>?_,rfl,rfl⟩,λb h=>.inl h,λb o v h=>.inl h,λb h=>?_⟩
 ·cases ν:S b o with
  | none=>exact .inl (JA ν)
  | some v=>
   obtain⟨p,ψ⟩:=ω.di b o v ν;exact .inr ⟨v,p,rfl,ψ,A' ν⟩
 ·have key:∀b o,(rZ S H).aL b o=none->H.aL b o=none:=λb o h=>by
   cases ν:S b o with
   | none=>rw[JA ν] at h;exact h
   | some v=>rw[A' ν] at h;cases h
  exact⟨λo=>key b o (h.1 o),h.2.1,h.2.2.1,λΩ hb=>⟨λo=>key Ω o ((h.2.2.2 Ω hb).1 o),(h.2.2.2 Ω hb).2⟩⟩
theorem Holds.sD (ω:Holds S B σ H) (μ:∀b,¬H.fresh b->kH H H' b) (Ρ:∀b,H'.fresh b->H.fresh b):Holds S B σ H'/\Ext S B H S B H':=by
 have C2:∀b o x,H.aL b o=some x->¬H.fresh b:=λb o x h Χ=>by rw[Χ.1 o] at h;cases h
 refine⟨⟨λb o v h=>?_,ω.len,λid r bo κ e6=>?_,ω.inj,ω.sep⟩,⟨λ_ _ _ h=>h,λb _ Χ=>nu.of (μ b Χ),λb h=>.inl h,λb o v h=>.inl h,Ρ⟩⟩
 ·obtain⟨p,ψ⟩:=ω.di b o v h;exact⟨p,by rw[(μ b (C2 b o _ ψ)).1];exact ψ⟩
 ·by_cases fr:r.live
  ·refine(ω.row id r bo κ e6).later (b'.refl S B σ) (λb N e=>μ b (ω.n6 κ fr (by rw[e6,e]))) λm left cur e=>?_;subst e;obtain⟨_,_,aW,k5,xs,clock,seen,_,I,⟨es,U⟩,_⟩:=ω.row id _ bo κ e6;exact⟨rfl,rfl,λb N hb=>μ b (ω.n6 U trivial hb)⟩
  ·cases r<;>first|exact absurd trivial fr|trivial
theorem Ext.sD (h:Ext fg [] H aA [] H') {b:Nat} (Χ:¬H.fresh b):kH H H' b:=(h.fQ b (λ⟨N,x⟩=>by simp at x) Χ).sD λ_=>rfl
theorem Qb {w:World} (c5:Fits H w) (dn:Fits E w) {b o:Nat} {u v:Value} {p q:Bool} (h:H.aL b o=some (u,p)) (k:E.aL b o=some (v,q)):u=v:=by
 have I:=c5.aL b o u p h;rw[dn.aL b o v q k] at I;exact(Option.some.inj I).symm
theorem bγ {w:World} (c5:Fits H w) (dn:Fits E w) (iI:Apart H E) {b N:Nat} {t:TypeId} (κ:E.row b=some (t,N)) (Α:∀o,o<N->∃v,E.aL b o=some (v,true)):(∀o,H.aL b o=none)/\kH E (join H E) b:=by
 obtain⟨c,I,U⟩:=dn.row b t N κ;have Η:∀o,H.aL b o=none:=λo=>by
  cases γ:H.aL b o with
  | none=>rfl
  | some x=>
   have ε:=c5.aL b o x.1 x.2 γ;by_cases aB:o<N
   ·exact absurd ⟨x,γ⟩ (iI.qU b o (Α o aB))
   ·simp only[World.cell?,I] at ε;simp[U,aB] at ε
 refine⟨Η,λo=>join_none (Η o),?_,?_⟩
 ·cases γ:H.row b with
  | none=>simp only[join,γ]
  | some x=>
   obtain⟨c',ξ,Κ⟩:=c5.row b x.1 x.2 γ;rw[I] at ξ;cases ξ;simp only[join,γ,κ];obtain⟨p1,k6⟩:=x
   simp_all
 ·cases γ:H.obj b with
  | none=>simp only[join,γ]
  | some x=>
   obtain⟨ξ,Κ⟩:=c5.obj b x γ;rw[I] at ξ;cases ξ;simp[Obj.se] at Κ
theorem Qc (ω:Holds S [] [] H) (dn:Holds hJ B σ E) (iI:Apart H E) (hw:∃w,Fits H w/\Fits E w) (l5:∀r∈σ,yz r) :
  Holds (S.plus hJ) B σ (join H E)/\b' S (S.plus hJ) [] B [] σ/\b' hJ (S.plus hJ) B B σ σ:=by
 obtain⟨w,c5,gB⟩:=hw;have st:∀b o v,hJ b o=some v->S.plus hJ b o=some v:=λb o v h=>by
  cases ν:S b o with
  | none=>rw[Fg ν];exact h
  | some u=>
   obtain⟨p,ψ⟩:=ω.di b o u ν;obtain⟨q,Ψ⟩:=dn.di b o v h;rw[Ba ν,Qb c5 gB ψ Ψ]
 have l1:b' S (S.plus hJ) [] B [] σ:=⟨λb o v h=>Ba h,λid r h=>by simp at h⟩
 have l2:b' hJ (S.plus hJ) B B σ σ:=⟨st,λid r h=>⟨r,h,r.tU _⟩⟩
 have mine:∀(id:Nat) (r:Row) (b N:Nat),σ[id]?=some r->B[id]?=some (some (b,N))->(∀o,H.aL b o=none)/\kH E (join H E) b:=λid r b N κ hb=>by
  obtain⟨t,k,l,rfl⟩:=l5 r (cr κ);obtain⟨Δ,_,Γ,_⟩:=dn.row id _ _ κ hb;exact bγ c5 gB iI Δ Γ
 refine⟨⟨λb o v h=>?_,dn.len,λid r bo κ e6=>?_,dn.inj,λid r b N κ fr e6 o=>?_⟩,l1,l2⟩
 ·cases ν:S b o with
  | some u=>
   rw[Ba ν] at h;cases h;obtain⟨p,ψ⟩:=ω.di b o _ ν;exact⟨p,join_some ψ⟩
  | none=>
   rw[Fg ν] at h;obtain⟨p,ψ⟩:=dn.di b o v h;cases γ:H.aL b o with
   | none=>exact⟨p,by rw[join_none γ];exact ψ⟩
   | some x=>
    obtain⟨u,q⟩:=x;have:=Qb c5 gB γ ψ;subst this;exact⟨q,join_some γ⟩
 ·refine(dn.row id r bo κ e6).later l2 (λb N e=>(mine id r b N κ (by rw[e6,e])).2) λm left cur e=>?_;subst e;obtain⟨t,k,l,e⟩:=l5 _ (cr κ);cases e
 ·have I:=(mine id r b N κ e6).1 o;cases ν:S b o with
  | some u=>
   obtain⟨p,ψ⟩:=ω.di b o u ν;rw[I] at ψ;cases ψ
  | none=>rw[Fg ν];exact dn.sep id r b N κ fr e6 o
theorem JC {o:Nat} {x:Value×Bool} (μ:G.aL β o=some x) {b:Nat} (Χ:G.fresh b):β<b:=by
 by_cases e:β<b
 ·exact e
 ·rcases Nat.lt_or_ge b β with h|h
  ·have:=(Χ.2.2.2 β h).1 o;rw[μ] at this;cases this
  ·obtain rfl:β=b:=by omega
   rw[Χ.1 o] at μ;cases μ
theorem JD {b:Nat} (Χ:G.fresh β) (h:β<b):G.fresh b:=
 ⟨(Χ.2.2.2 b h).1,(Χ.2.2.2 b h).2.1,(Χ.2.2.2 b h).2.2,λΩ dF=>Χ.2.2.2 Ω (Nat.lt_trans h dF)⟩
theorem bδ (ff:∀b o v,S b o=some v->bM b o≠none\/β<b):nN β bM (m7 S):=
 ⟨λb o x h=>let ⟨v,I,_⟩:=Ff h;ff b o v I,λb x h=>(by cases h),λb x h=>(by cases h)⟩
theorem nN.join (h:nN β bM G) (k:nN β bM E):nN β bM (join G E):=by
 refine⟨λb o x γ=>?_,λb x γ=>(aΦ γ).elim (h.row b x) (k.row b x),λb x γ=>(aΧ γ).elim (h.obj b x) (k.obj b x)⟩;cases Ρ:G.aL b o with
 | none=>rw[join_none Ρ] at γ;exact k.aL b o x γ
 | some y=>exact h.aL b o y Ρ
theorem nN.ext (h:nN β bM G) {G':χ} (he:Ext S B G aA B' G') (fl:∀b,B.has b->β<b) {o:Nat} {x:Value×Bool} (μ:G.aL β o=some x):nN β bM G':=by
 have key:∀b,¬β<b->nu S G G' b:=λb hb=>he.fQ b (λk=>hb (fl b k)) λk=>hb (JC μ k);refine⟨λb o x γ=>?_,λb x γ=>?_,λb x γ=>?_⟩
 ·by_cases hb:β<b
  ·exact .inr hb
  ·rcases(key b hb).1 o with e|⟨v,p,_,e,_⟩
   ·rw[e] at γ;exact h.aL b o x γ
   ·exact h.aL b o _ e
 ·by_cases hb:β<b
  ·exact hb
  ·rw[(key b hb).2.1] at γ;exact h.row b x γ
 ·by_cases hb:β<b
  ·exact hb
  ·rw[(key b hb).2.2] at γ;exact h.obj b x γ
theorem Qd {G':χ} (he:Ext S B G aA B' G') (fl:¬B.has β) (μ:∃o x,G.aL β o=some x):∃o x,G'.aL β o=some x:=by
 obtain⟨o,x,γ⟩:=μ;rcases(he.fQ β fl (λΧ=>by rw[Χ.1 o] at γ;cases γ)).1 o with e|⟨v,p,_,_,e⟩
 ·exact⟨o,x,by rw[e];exact γ⟩
 ·exact⟨o,_,e⟩
theorem nN.blocks (h:nN β bM E) (dn:Holds hJ B σ E) (l5:∀r∈σ,yz r) {b:Nat} (hb:B.has b):β<b:=by
 obtain⟨N,cl⟩:=hb;obtain⟨id,b0⟩:=List.getElem?_of_mem cl;have aB:id<σ.length:=by rw[<-dn.len];exact(cf.1 b0).1
 have κ:=a5 aB;obtain⟨t,k,l,e⟩:=l5 _ (cr κ);rw[e] at κ;exact h.row b _ (dn.row id _ _ κ b0).1
theorem bε (he:Ext fq [] dS S [] H) (ff:∀b o v,bM b o=some v->S b o=some v) (Χ:dS.fresh β) (hi:nN β bM E) (ω:Holds S [] [] H) (dn:Holds hJ B σ E) (l5:∀r∈σ,yz r) :
  Ext fq [] dS (S.plus hJ) B (join H E):=by
 have x0:∀b,¬aU.has ([]:aU) b:=λb ⟨N,h⟩=>by simp at h
 have old:∀b,¬dS.fresh b->¬β<b:=λb h k=>h (JD Χ k)
 have same:∀b,¬β<b->∀o,(join H E).aL b o=H.aL b o:=λb hb o=>by
  cases γ:H.aL b o with
  | some x=>rw[join_some γ]
  | none=>
   rw[join_none γ];cases Ο:E.aL b o with
   | none=>rfl
   | some y=>
    rcases hi.aL b o y Ο with k|k
    ·cases ν:bM b o with
     | none=>exact absurd ν k
     | some v=>
      obtain⟨p,ψ⟩:=ω.di b o v (ff b o v ν);rw[γ] at ψ;cases ψ
    ·exact absurd k hb
 refine⟨λb o v h=>Ba (he.di b o v h),λb _ o5=>?_,λb hb=>.inr (JD Χ (hi.blocks dn l5 hb)),λb o v h=>?_,λb h=>he.grow b ?_⟩
 ·have hb:=old b o5;obtain⟨k1,cJ,rF⟩:=he.fQ b (x0 b) o5;refine⟨λo=>by rw[same b hb o];exact k1 o,?_,?_⟩
  ·cases γ:E.row b with
   | none=>rw[<-cJ];simp only[join,γ];cases H.row b<;>rfl
   | some x=>exact absurd (hi.row b x γ) hb
  ·cases γ:E.obj b with
   | none=>rw[<-rF];simp only[join,γ];cases H.obj b<;>rfl
   | some x=>exact absurd (hi.obj b x γ) hb
 ·cases ν:S b o with
  | some u=>rw[Ba ν] at h;cases h;exact he.rh b o _ ν
  | none=>
   rw[Fg ν] at h;obtain⟨p,ψ⟩:=dn.di b o v h;rcases hi.aL b o _ ψ with k|k
   ·cases rX:bM b o with
    | none=>exact absurd rX k
    | some u=>rw[ff b o u rX] at ν;cases ν
   ·exact .inr (.inr (JD Χ k))
 ·have c:∀b o,(join H E).aL b o=none->H.aL b o=none:=λb o h=>by
   cases γ:H.aL b o with
   | none=>rfl
   | some x=>rw[join_some γ] at h;cases h
  have r:∀b,(join H E).row b=none->H.row b=none:=λb h=>by
   cases γ:H.row b with
   | none=>rfl
   | some x=>simp only[join,γ] at h;cases h
  have o:∀b,(join H E).obj b=none->H.obj b=none:=λb h=>by
   cases γ:H.obj b with
   | none=>rfl
   | some x=>simp only[join,γ] at h;cases h
  exact⟨λo'=>c b o' (h.1 o'),r b h.2.1,o b h.2.2.1,λΩ hb=>⟨λo'=>c Ω o' ((h.2.2.2 Ω hb).1 o'),r Ω (h.2.2.2 Ω hb).2.1,o Ω (h.2.2.2 Ω hb).2.2⟩⟩
end
end Go.TL
namespace Go.TL
open Go.Conc Go.Proofs
open Go.ConcN (sumTo upd sumTo_upd upd_ne upd_same sumTo_congr le_sumTo)
noncomputable def under (P:Program):Frame:={(default:Frame) with fn:=P.funcs.size,defers:=[],mode:=.panicking [goexitEntry]}
theorem bζ {P:Program} {g:FuncId} {cap:Array Value} (Ρ:Plain P g) (w:World):stepG P false (born P ⟨.fn (.func g) cap,#[]⟩) w=.go (Go.Conc.G (Frame.enter P g cap .deferred) [under P]) w #[]:=by
 obtain⟨fn,I,U,ξ⟩:=Ρ;have ho:¬fn.name = "runtime.NumGoroutine" := by simpa using U
 have bη:¬fn.body=none:=by intro e;rw[e] at ξ;cases ξ
 simp[born,stepG,unwind,callDeferred,invoke,callFunc,I,ho,bη,seen,GStep.after,Go.Conc.G,under]
theorem bθ {P:Program} {b:Frame} {fn:Func} (bY:P.funcs[b.fn]?=some fn) (e5:fn.results=#[]) (eP:b.defers=[]) (hm:b.mode=.returning) (ς:b.kind=.deferred):lx P 0 (Go.Conc.G b [under P]):=by
 refine⟨2,QuitsD.ctl (g':=Go.Conc.G (under P) []) rfl (λw=>?_) ?_⟩
 ·simp[Go.Conc.G,stepG,unwind,hm,eP,bY,doReturn,results,e5,ς,under,seen,GStep.after,goexitEntry]
 ·refine QuitsD.ctl (g':={Go.Conc.G (under P) [] with status:=.finished}) rfl (λw=>?_) ⟨rfl,rfl⟩;simp[Go.Conc.G,stepG,unwind,under,goexitEntry,Frame.catches];rfl
def tm (l:List η):η:=if l.isEmpty then .sl true 0 [] else .ms 1 l.length 0 l.length
def gK (l:List η):List Row:=.cells 99 1 [tm l]::bh 110 3 l
theorem JE:tm []=.sl true 0 []:=rfl
theorem Fh {l:List η} (h:l≠[]):tm l=.ms 1 l.length 0 l.length:=by unfold tm;rw[if_neg (by simpa using h)]
theorem Qe {l:List η} {x:η}:tm (l++[x])=.ms 1 (l.length+1) 0 (l.length+1):=by rw[Fh θ];simp
theorem Fi (l:List η):∀r∈gK l,yz r:=by
 intro r h;unfold gK bh at h;rcases List.mem_cons.1 h with rfl|h
 ·exact⟨_,_,_,rfl⟩
 ·split at h
  ·cases h
  ·simp at h;subst h;exact⟨_,_,_,rfl⟩
def wN (β:Nat) (bM:aH) (o:Nat) (fd:Nat->Option Found) (L:List Nat) (E:χ):Prop:=
 nN β bM E/\∃S B,Holds S B (gK ((L.filterMap fd).map de)) E/\B[0]?=some (some (o,1))
theorem bι {S aA:aH} {B B':aU} {l d':List η} {m:Nat} (h:b' S aA (B.take m) B' ((gK l).take m) (gK d')) (hm:0<m):B'[0]?=B[0]?:=by
 obtain⟨m,rfl⟩:∃k,m=k+1:=⟨m-1,R⟩;obtain⟨r',I,U⟩:=h.rows 0 (.cells 99 1 [tm l]) (by simp[gK]);have:r'=.cells 99 1 [tm d']:=by simpa[gK] using I.symm
 subst this;rcases U with⟨l2,_,_,ξ⟩|ξ
 ·simpa[List.getElem?_take] using ξ
 ·have:=ξ 1 θ;simp[Row.hf] at this
section
variable {β s m o k:Nat} {S bM:aH} {fd:Nat->Option Found} {sp:Spec} {eb:aI} {a b:Int} {v1 v2 wO:Value} {f:Found} {n:Nat}
abbrev mf (s:Nat) (sp:Spec):aX:=⟨χ.empty,λ_=>none,λ_=>.nil,upd (λ_=>none) s (some sp),λ_=>none,0,false⟩
abbrev Fj (s m o:Nat) (v1 v2 wO:Value):Array Value:=#[ptr s 0,v1,v2,wO,ptr m 0,ptr o 0]
abbrev JF (s m o:Nat) (eb:aI) (a b:Int):List η:=[.z (ptr s 0),.ab [aS eb.ag,aQ eb.ak,bl eb.cells],.ab [J a],.ab [J b],.z (ptr m 0),.z (ptr o 0)]
theorem Qf:(mf s sp).spec s=some sp:=upd_same (λ_=>(none:Option Spec)) s (some sp)
theorem Qg (fw:sp.aW=some m) (gJ:sp.top<7):jq (mf s sp) s m sp:=⟨rfl,rfl,Qf,fw,gJ,λ_ _=>trivial⟩
theorem bκ (gJ:sp.top<7):P' (mf s sp) s sp:=⟨rfl,rfl,Qf,gJ,λ_ _=>trivial⟩
theorem bμ (fw:sp.aW=some m) (gJ:sp.top<7) (dZ:sp.D k χ.empty) {Q:Value->Prop} {c:Frame} {H:χ} {v:Option (Nat×aP)} {d1:Deferred} (ko:wy Tryz.prog d1 142 #[ptr s 0])
  (hm:c.mode=.returning) (eP:c.defers=[d1]) (ς:c.kind=.deferred) (bY:c.fn=141):cw Tryz.prog Q false (bx (mf s sp) s (.ch k .done .work) v 0) c [under Tryz.prog] H:=by
 letI:bt:=eG;have γ:Seq (one (bx (mf s sp) s (.ch k .done .work) v 0)):=Seq.uL trivial rfl rfl;refine aO.deferred (x:=one _) γ (by rw[hm];simp) eP ko.t1 ko.t2 ko.run (λy Ο=>?_) _ rfl;cases Ο;refine aΥ (bκ gJ) dZ hm ?_;exact bθ (fn:=Tryz.f141) (by rw[bY];exact Tryz.func141) rfl rfl hm ς
theorem bν (fw:sp.aW=some m) (gJ:sp.top<7) (dp:sp.aN=wN β bM o fd) (dZ:sp.D k χ.empty) {Q:Value->Prop} {c:Frame} {kN:aH} {kO:aU} {jm:χ} {L:List Nat} {v:Option (Nat×aP)} {d1 d2:Deferred}
  (ko:wy Tryz.prog d1 142 #[ptr s 0]) (ly:wy Tryz.prog d2 145 #[ptr m 0]) (hm:c.mode=.returning) (eP:c.defers=[d2,d1]) (ς:c.kind=.deferred) (bY:c.fn=141)
  (ω:Holds kN kO (gK (((L++[k]).filterMap fd).map de)) jm) (fl:kO[0]?=some (some (o,1))) (hi:nN β bM jm) (μ:∃q x,jm.aL β q=some x) :
  cw Tryz.prog Q false (bx (mf s sp) s (.ch k (.dh L) .work) v 0) c [under Tryz.prog] jm:=by
 letI:bt:=eG;have γ:Seq (one (bx (mf s sp) s (.ch k (.dh L) .work) v 0)):=Seq.uL trivial rfl rfl;refine aO.deferred (x:=one _) γ (by rw[hm];simp) eP ly.t1 ly.t2 ly.run (λy Ο=>?_) _ rfl;cases Ο;refine aδ (x:=mf s sp) (s:=s) (c:={c with defers:=[d1]}) (Qg fw gJ) ω hm λjT jU he kY=>⟨χ.empty,jU,⟨Sub.empty _,Sub.refl _,(Apart.tK _).symm⟩,?_,λv2 iw hS _=>?_⟩
 ·rw[dp];obtain⟨dL,p2,p3⟩:=ω.back he kY;obtain⟨q,x,Ψ⟩:=μ;exact⟨hi.ext he (λb ⟨N,h⟩=>by simp at h) Ψ,jT,kO,dL,fl⟩
 ·exact bμ fw gJ dZ ko hm rfl ς bY
end
section
variable {β s m o k:Nat} {S bM:aH} {fd:Nat->Option Found} {sp:Spec} {eb:aI} {a b:Int} {v1 v2 wO:Value} {f:Found} {n:Nat}
noncomputable abbrev bξ (vs:Array Value) (ds:List Deferred):Frame:={Frame.enter Tryz.prog 141 vs .deferred with defers:=ds}
noncomputable def Fl:Code:=Tryz.f141.body.getD .skip
theorem bο (fw:sp.aW=some m) (gJ:sp.top<7) (dp:sp.aN=wN β bM o fd) (dZ:sp.D k χ.empty) (JG:∀c:bt,@aD c Tryz.prog 78 [de f,J (-1)] (J n)) (yA:fd k=if 0<n then some f else none) {Q:Value->Prop}
  {aA:aH} {H' E:χ} {L:List Nat} (ω:Holds aA [] [] H') (dn:sp.aN L E) (iI:Apart H' E) (hw:∃w,Fits H' w/\Fits E w) (hlen:((L.filterMap fd).map de).length<=4294967295) (o7:nN β bM H') (bπ:∃q x,H'.aL β q=some x)
  {t:Array Value} (ν:dj aA [] [] [(4,.z (ptr m 0)),(5,.z (ptr o 0)),(6,.ab (de f).cells)] t) (cv:t.size=20) {vs:Array Value} {d1:Deferred} (ko:wy Tryz.prog d1 142 #[ptr s 0]) {ops:Array Oper} :
  cw Tryz.prog Q false (bx (mf s sp) s (.ch k (.dh L) .work) none 0) (ax (bξ vs [d1]) t [.inRegion ops [],.code (dH [1,1,1] Fl)]) [under Tryz.prog] (join H' E):=by
 letI:bt:=eG;have γ:Seq (one (bx (mf s sp) s (.ch k (.dh L) .work) none 0)):=Seq.uL trivial rfl rfl;rw[dp] at dn;obtain⟨hi,hJ,r4,wP,fl⟩:=dn;obtain⟨l,υ⟩:=aF ((L.filterMap fd).map de);have iN:l.length<=4294967295:=υ▸hlen;rw[<-υ] at wP;obtain⟨JH,l1,l2⟩:=Qc ω wP iI hw (Fi l);have lp:∀b,r4.has b->β<b:=λb=>hi.blocks wP (Fi l);have Fo:∃q x,(join H' E).aL β q=some x:=let ⟨q,x,h⟩:=bπ;⟨q,x,join_some h⟩;have aE:t.getD 5 undef=ptr o 0:=by
  have:=ν 5;generalize t.getD 5 undef=u at this;cases this;rfl
 have rX:dj (aA.plus hJ) r4 (gK l) [(4,.z (ptr m 0)),(5,.an 0 1 0 0),(6,.ab (de f).cells)] t:=λi=>by
  have ai:=(ν i).later l1;simp only[a6] at ai ⊢;by_cases cG:4=i
  ·simpa[cG] using ai
  by_cases e':5=i
  ·subst e';simp only[show ¬4=5 by decide,if_false,if_true];rw[aE];have:=av.an (S:=aA.plus hJ) (B:=r4) (σ:=gK l) (id:=0) (n:=1) (i:=0) (j:=0) (k:=1) (t:=99) (l:=[tm l]) (b:=o) (N:=1) (by simp[gK]) rfl fl;simpa using this
  ·simpa[cG,e'] using ai
 have leave:∀(d':List η) (iw:aH) (jV:aU) (hS:χ) (c:Frame) (d2:Deferred),d'=((L++[k]).filterMap fd).map de->e7 1 (aA.plus hJ) r4 (join H' E) (gK l) iw jV hS (gK d')->Holds iw jV (gK d') hS->wy Tryz.prog d2 145 #[ptr m 0]->
   c.mode=.returning->c.defers=[d2,d1]->c.kind=.deferred->c.fn=141->cw Tryz.prog Q false (bx (mf s sp) s (.ch k (.dh L) .work) none 0) c [under Tryz.prog] hS:=λd' iw jV hS c d2 e bW JI ly c1 c2 c3 c4=>by
  subst e;obtain⟨q,x,Ψ⟩:=Fo;exact bν fw gJ dp dZ ko ly c1 c2 c3 c4 JI (by rw[bι bW.later R];exact fl) ((o7.join hi).ext bW.ext lp Ψ) (Qd bW.ext (λh=>Nat.lt_irrefl _ (lp β h)) ⟨q,x,Ψ⟩)
 refine V.here (x:=one _) (m:=1) (nt:=20) (S:=aA.plus hJ) (B:=r4) (σ:=gK l) (env:=[(4,.z (ptr m 0)),(5,.an 0 1 0 0),(6,.ab (de f).cells)]) ?_ ⟨JH,rX,cv,by simp[gK]⟩ _ rfl;refine V.fL γ rfl ?_;refine W.bI ?_;simp only[Fl,Tryz.f141,Option.getD_some,dH]
 repeat first|apply a3|apply wb|apply a4|apply wd
 refine W.cq (.stop ?_);refine V.defer γ rfl rfl rfl rfl rfl rfl rfl ⟨_,Tryz.func145,rfl,rfl⟩ λkN kO jm t3 d2 Jv hG e8 s3 ly=>?_;obtain rfl:=m0 (l:=[ptr m 0]) s3;rintro y rfl;refine V.here (x:=one _) (m:=1) (nt:=20) ?_ e8 _ rfl;refine V.fL γ rfl ?_;refine W.bI ?_;refine bN λΕ ζ=>?_;refine aD.d (JG _) (bT ?_);apply ζ;by_cases Η:0<n
 ·refine al (by simp[Η]) ?_;refine W.fA (A:=[19]) Φ [] (gK (l++[de f])) (.stop ?_) (by
   by_cases Θ:l=[]
   ·subst Θ;(try simp);(repeat (rw[Υ];simp[gK,JE,iW]));(try simp[gK,JE,iW]);exact⟨rfl,rfl⟩
   ·(try simp);(repeat (rw[Υ];simp[gK,Fh Θ,ee Θ,Qe,s6]));(try simp[gK,Fh Θ,ee Θ,Qe,s6]);exact iN)
  intro iw jV hS t5 ky lz;refine aO.sy γ rfl rfl ?_;rintro y rfl;exact leave _ iw jV hS _ d2 (by rw[List.filterMap_append,List.map_append,<-υ];simp[yA,Η]) (hG.trans ky) lz.holds ly rfl rfl rfl rfl
 ·refine aj (by simp;omega) ?_
  repeat first|apply a3|apply wb|apply a4|apply wd
  refine W.stop ?_;intro iw jV hS t5 ky lz;refine aO.sy γ rfl rfl ?_;rintro y rfl;exact leave _ iw jV hS _ d2 (by rw[List.filterMap_append,List.map_append,<-υ];simp[yA,Η]) (hG.trans ky) lz.holds ly rfl rfl rfl rfl
theorem wQ {S:aH} {B:aU} {σ:List Row} {env env':aa} {t:Array Value} (h:dj S B σ env t) (ν:∀p∈env',a6 env p.1=p.2):dj S B σ env' t:=by
 induction env' with
 | nil=>exact λi=>.cp _
 | cons p l Β=>
  intro i;simp only[a6];split
  ·rename_i e;have:=ν p θ;rw[<-this,e];exact h i
  ·exact Β (λq Ψ=>ν q (by simp[Ψ])) i
theorem bρ (fw:sp.aW=some m) (gJ:sp.top<7) (dp:sp.aN=wN β bM o fd) (dZ:sp.D k χ.empty) (bς:∀c:bt,@aD c Tryz.prog 143 [fs eb,aC (a,b)] (de f))
  (JG:∀c:bt,@aD c Tryz.prog 78 [de f,J (-1)] (J n)) (yA:fd k=if 0<n then some f else none) (bτ:∀L:List Nat,L.Nodup->((L.filterMap fd).map de).length<=4294967295)
  (μ:∃q v,S β q=some v) (ff:∀b q v,S b q=some v->bM b q≠none\/β<b) (JJ:fJ S [] [] (JF s m o eb a b) (Fj s m o v1 v2 wO)) {Q:Value->Prop} :
  Goes Tryz.prog Q false (born Tryz.prog ⟨.fn (.func 141) (Fj s m o v1 v2 wO),#[]⟩) {bx (mf s sp) s (.ch k .idle .work) none 0 with G:=m7 S}:=by
 letI:bt:=eG;have uT:Seq (one (bx (mf s sp) s (.ch k .idle .work) none 0)):=Seq.uL trivial rfl rfl;refine Quiet.goes (.cons ⟨rfl,rfl⟩ (λw=>bζ ⟨_,Tryz.func141,rfl,rfl⟩ w) (.nil _)) (.inl rfl) ⟨rfl,rfl⟩ ?_;show cw Tryz.prog Q false (bx (mf s sp) s (.ch k .idle .work) none 0) (Frame.enter Tryz.prog 141 (Fj s m o v1 v2 wO) .deferred) [under Tryz.prog] (m7 S);rw[qp (body:=Fl) Tryz.func141 rfl];refine V.here (x:=one _) (m:=0) (nt:=20) (S:=S) (B:=[]) (σ:=[]) (env:=entry 0 (JF s m o eb a b)) ?_ (fI.enter bα JJ (Nat.le_refl _) θ) _ rfl;refine V.fL uT rfl ?_;simp only[Fl,Tryz.f141,Option.getD_some]
 repeat first|apply a3|apply wb|apply a4|apply wd
 refine W.cq (.stop ?_);refine V.defer uT rfl rfl rfl rfl rfl rfl rfl ⟨_,Tryz.func142,rfl,rfl⟩ λkN kO jm t3 d1 Jv hG e8 s3 ko=>?_;obtain rfl:=m0 (l:=[ptr s 0]) s3;obtain rfl:kO=[]:=dw.1 e8.holds.len;rintro y rfl;refine V.here (x:=one _) (m:=0) (nt:=20) ?_ e8 _ rfl;refine V.fL uT rfl ?_;refine W.bI ?_;refine x5 ?_;refine dG (A:=[6]) Φ λΕ ζ=>bT ?_;refine aD.d (bς _) (bT ?_);apply ζ;refine W.fix (id:=0) (σ':=[]) (Nat.zero_le _) rfl θ θ rfl [(4,.z (ptr m 0)),(5,.z (ptr o 0)),(6,.ab (de f).cells)] (by simp[entry]) ?_
 repeat first|apply a3|apply wb|apply a4|apply wd
 refine W.cq (.stop ?_);refine V.call uT ⟨rfl,rfl,by simp[Frame.enter],rfl⟩ rfl rfl rfl ⟨_,Tryz.func144,rfl,rfl⟩ λjT pq jU t4 aβ s0 qt Jm=>?_;obtain rfl:=m0 (l:=[ptr m 0]) Jm;obtain rfl:pq=[]:=dw.1 qt.holds.len;rintro y rfl;refine Z5 (Qg fw gJ) qt.holds λiw hS L E Qh JI dn iI ⟨kJ,Mh,hw⟩=>?_;rw[il rfl];have rB:Ext S [] (m7 S) iw [] hS:=hG.ext.trans (s0.ext.trans Qh);obtain⟨ik,u0,Fp⟩:=μ;have lp:∀b,¬aU.has ([]:aU) b:=λb ⟨N,h⟩=>by simp at h
 exact bο fw gJ dp dZ JG yA JI dn iI hw (bτ L kJ) ((bδ ff).ext rB (λb h=>absurd h (lp b)) (JB Fp)) (Qd rB (lp β) ⟨ik,_,JB Fp⟩)
  (by
   refine dj.later (wQ (qt.put (a:=.z (.tuple #[])) rfl (.z _)).cx (by simp[cj])) ⟨Qh.di,λid r h=>by simp at h⟩) (qt.put (a:=.z (.tuple #[])) rfl (.z _)).size ko
end
end Go.TL
namespace Go.TL
open Go.Conc Go.Proofs
variable [bt]
noncomputable abbrev bυ (vs:Array Value):Frame:=Frame.enter Tryz.prog 126 vs .normal
abbrev r5 (L:Nat):η:=.fn (.yield L) [] []
structure bφ (Q:Value->Prop) (mn:Bool) (x:gV) (cs:List Frame) (uU:Frame) (o:Base) (L:Nat) (r:Loop) (n:Nat) (js ju:Row) (Fnd:List (List Nat)->Prop):Prop where
 m:o.m=2
 db:eW 2 js
 bJ:eW 2 ju
 cT:r.params.size=1
 round:∀(l:List Nat) (rem:List (List Nat)),Fnd (l::rem)->l.length<=n->(∀x∈l,x<n)->∀(S:aH) (B:aU) (H:χ) (ws:Array Value) (c:Frame),e7 2 o.S o.B o.H o.σ S B H [js,ju,fB l]->Holds S B [js,ju,fB l] H->¬B.has L->H.obj L=some (.loop r)->fJ S B [js,ju,fB l] [.ms 2 l.length 0 l.length] ws->
  (Fnd rem->∀(aA:aH) (B':aU) (H':χ),e7 2 o.S o.B o.H o.σ aA B' H' [js,ju,fB l]->b' S aA B B' [js,ju,fB l] [js,ju,fB l]->Holds aA B' [js,ju,fB l] H'->¬B'.has L->H'.obj L=some (.loop r)->aO Tryz.prog Q mn x (c.finish (.bool true)) (uU::cs) H')->
  (∀H',(∀(c0:aH) (bQ:χ),Ext fg [] H' c0 [] bQ->aO Tryz.prog Q mn x (uU.finish (.tuple #[])) cs bQ)->aO Tryz.prog Q mn x (c.finish (.bool false)) (uU::cs) H')->
  aO Tryz.prog Q mn x (Frame.round L r.fn ((r.params.zip ws).foldl (λtmps (t,a)=>tmps.setIfInBounds t a) r.tmps) r.assign r.body .normal) (c::uU::cs) H
 done:Fnd []->∀(S:aH) (B:aU) (H:χ),e7 2 o.S o.B o.H o.σ S B H [js,ju]->Holds S B [js,ju] H->¬B.has L->H.obj L=some (.loop r)->aO Tryz.prog Q mn x (uU.finish (.tuple #[])) cs H
def r6 (c i:Nat):List Int:=(List.range i).map (λj:Nat=>(j:Int))++List.replicate (c-i) 0
theorem bχ {c i:Nat} (h:i<c):(r6 c i).set i (i:Int)=r6 c (i+1):=by
 unfold r6;have Δ:((List.range i).map λj:Nat=>(j:Int)).length=i:=θ;have Γ:c-i=(c-(i+1))+1:=R;rw[List.set_append_right _ _ R,Δ,Nat.sub_self,Γ,List.replicate_succ,List.set_cons_zero,List.range_succ,List.map_append];simp
theorem bψ {c i:Nat} (h:i<=c):(r6 c i).length=c:=by simp[r6];omega
theorem bω (c:Nat):(r6 c c).map J=(List.range c).map λn:Nat=>J n:=by simp[r6]
section
variable {Q:Value->Prop} {mn:Bool} {x:gV} {cs:List Frame} {uU:Frame} {o:Base} {L:Nat} {r:Loop} {n:Nat} {js ju:Row} {Fnd:List (List Nat)->Prop} {vs:Array Value}
theorem bΑ (γ:Seq x) (Η:n<=10) (hC:bφ Q mn x cs uU o L r n js ju Fnd) (ai:Fnd (kP n 0)) :
  th Tryz.prog Q mn x (bυ vs) (uU::cs) 72 o L r [.code (Tryz.f126.body.getD .skip)] (entry 0 [r5 L,.ab [J n]]) [js,ju]:=by
 have hm:=hC.m;refine th.fL γ rfl ?_;simp only[Tryz.f126,Option.getD_some];have AM:=fz (show n<11 by omega) R;refine aR AM ?_;refine W.iter (λc:Nat=>c<=n+1/\Fnd (kP n c)) (λc=>[(0,r5 L),(1,.ab [J n]),(9,J ((n:Int)+1)),(10,J c)]) (λ_=>[js,ju]) (λc=>n+1-c) 0 ⟨Nat.zero_le _,ai⟩ rfl (by simp[entry,AM]) (λc ε Β=>?_);obtain⟨n8,gB⟩:=ε;refine Ζ ?_;by_cases oY:c<n+1
 ·refine al (by simp;omega) ?_;refine Ζ ?_;have jM:(0:Int)<=c:=R;have bΒ:(8:Int)*c<=281474976710656:=R;refine dG (A:=[14]) Φ λΕ ζ=>bT ?_;simp[bΒ];(repeat (rw[Υ];simp[]));apply ζ;refine Ζ ?_;refine W.iter (λi:Nat=>i<=c) (λi=>[(0,r5 L),(1,.ab [J n]),(9,J ((n:Int)+1)),(10,J c),(3,J c),(4,.ms 2 c 0 c),(16,J c),(17,J i)]) (λi=>[js,ju,.cells 3 1 ((r6 c i).map J)]) (λi=>c-i) 0 (Nat.zero_le _) (by simp[r6]) θ (λi hi gk=>?_);refine Ζ ?_;by_cases yB:i<c
  ·refine al (by simp[yB]) ?_;have ki:=fz yB (show c<2 ^ 62 by omega);have DC:=bψ (Nat.le_of_lt yB);have qc:=bχ yB;obtain⟨G,c5⟩:=aF (r6 c i);rw[<-c5] at DC qc ⊢;have bΓ:i<G.length:=R;refine aR (Μ DC (Μ yB (Μ bΓ ki))) ?_;refine W.to (gk (i+1) yB R) ?_ ?_
   ·rw[<-qc];simp
   ·simp[ki]
  ·have dT:i=c:=by omega
   subst dT;refine aj θ ?_;refine W.exit rfl ?_;rw[bω]
   repeat apply ar
   refine W.iter (λx:Nat×List Nat=>qG n x.1 x.2=true/\x.2.length=i/\Fnd (oz n x.1 x.2++kP n (i+1))) (λ_=>[(0,r5 L),(1,.ab [J n]),(9,J ((n:Int)+1)),(10,J i),(3,J i),(4,.ms 2 i 0 i)]) (λx=>[js,ju,fB x.2]) (λx=>x.1) (300,List.range i)
    ⟨Zq n R i oY,θ,by rw[<-Zr oY];exact gB⟩ rfl θ (λx γ kr=>?_)
   obtain⟨g,l⟩:=x;obtain⟨dK,iN,JK⟩:=γ;simp only at dK iN JK ⊢
   repeat apply ar
   refine W.cq ?_;refine ft [0,1] [2,3] ?_;refine W.stop ?_;obtain⟨rem,bΔ,Qi⟩:∃rem,oz n g l++kP n (i+1)=l::rem/\((qF n l=none/\rem=kP n (i+1))\/∃eB af,qF n l=some eB/\g=af+1/\rem=oz n af eB++kP n (i+1)/\qG n af eB=true):=by
    cases qL:qF n l with
    | none=>exact⟨kP n (i+1),by rw[Zu qL];rfl,.inl ⟨rfl,rfl⟩⟩
    | some eB=>
     obtain⟨af,Δ,Γ,a0⟩:=Zv dK qL;exact⟨oz n af eB++kP n (i+1),by rw[Γ];rfl,.inr ⟨eB,af,rfl,Δ,rfl,a0⟩⟩
   rw[bΔ] at JK;have aB:=Zt dK;refine th.yield γ ⟨rfl,rfl,by simp[Frame.enter],rfl⟩ rfl rfl rfl hC.cT.symm λS B H t ws μ ψ lp aG hv=>?_;refine hC.round l rem JK R aB S B H ws _ (by rw[<-hm];exact μ) ψ.holds lp aG (by rw[iN];exact hv) (λJL aA B' H' eo Er jj bΕ wE=>?_) (λH' ν=>?_)
   ·rw[il rfl];have Bb:dj aA B' [js,ju,fB l] [(27,.z (.bool true)),(0,r5 L),(1,.ab [J n]),(9,J ((n:Int)+1)),(10,J i),(3,J i),(4,.ms 2 i 0 i)] (t.setIfInBounds 27 (.bool true)):=wQ (dj.put (ψ.cx.later Er) (d:=27) (by rw[ψ.size];omega) (.z _)) θ;refine(th.fL (env:=[(27,.z (.bool true)),(0,r5 L),(1,.ab [J n]),(9,J ((n:Int)+1)),(10,J i),(3,J i),(4,.ms 2 i 0 i)]) (σ:=[js,ju,fB l]) (o:=o) (L:=L) (r:=r) (nt:=72) γ rfl ?_) aA B' H' _ (by rw[hm];exact eo) ⟨jj,Bb,Eq.trans (Array.size_setIfInBounds ..) ψ.size,by rw[hm];simp⟩ bΕ wE;refine ft [3] [] ?_;refine W.bI ?_;refine aj rfl ?_;have jr:IntKind.i64.wrap ((i:Int)-1)=(i:Int)-1:=IntWalk.i64_in _ R;refine aR jr ?_;refine W.iter (λe:Nat=>e<=i/\qE n l i=qE n l e) (λe=>[(0,r5 L),(1,.ab [J n]),(9,J ((n:Int)+1)),(10,J i),(3,J i),(4,.ms 2 i 0 i),(6,J ((e:Int)-1))]) (λ_=>[js,ju,fB l]) (λe=>e) i ⟨Nat.le_refl _,rfl⟩ rfl (by simp[jr]) (λe he zH=>?_);obtain⟨lΒ,Qj⟩:=he
    repeat apply ar
    have te:=fz oY (show n+1<2 ^ 62 by omega)
    have ph:qF n l=(qE n l e).map λq=>m1 l q (l.length-q):=by unfold qF;rw[iN,Qj]
    cases e with
    | zero=>
     have He:rem=kP n (i+1):=by
      rcases Qi with⟨_,h⟩|⟨eB,af,h,_⟩
      ·exact h
      ·rw[ph] at h;simp[qE] at h
     rw[He] at JL;refine uq ?_;refine aj rfl ?_;refine W.exit rfl ?_;refine Ζ ?_;refine al rfl ?_;refine W.exit rfl ?_;refine W.drop (h:=2) (σ':=[js,ju]) (by rw[hm];exact Nat.le_refl _) θ (λid q b0 Ψ=>by
      match id,b0,Ψ with
      | 0,_,Ψ=>simp at Ψ;subst Ψ;exact hC.db
      | 1,_,Ψ=>simp at Ψ;subst Ψ;exact hC.bJ) rfl [(0,r5 L),(1,.ab [J n]),(9,J ((n:Int)+1)),(10,J i)] (by simp[l4]) ?_
     refine aR te ?_;refine W.to (Β (i+1) ⟨oY,JL⟩ R) rfl ?_;simp[te]
    | succ e=>
     have nv:e<l.length:=R
     have hle:=aB _ (List.getElem_mem nv)
     have Fq:l.getD e 0=l[e]:=by simp[List.getD_eq_getElem?_getD,nv]
     have iG:IntKind.i64.wrap ((n:Int)-i)=(n:Int)-i:=IntWalk.i64_in _ R
     have jv:IntKind.i64.wrap ((n:Int)-i+e)=(n:Int)-i+e:=IntWalk.i64_in _ R
     have pE:IntKind.i64.wrap ((e:Int)-1)=(e:Int)-1:=IntWalk.i64_in _ R
     have Qk:e<i:=R
     have rX:((e+1:Nat):Int)-1=e:=R;rw[rX];refine gx (Μ nv (Μ Qk (Μ iN (Μ iG jv)))) ?_;by_cases Ψ:l[e]+i=n+e
     ·have Fs:qE n l (e+1)=qE n l e:=by rw[qE,if_pos (by rw[Fq,iN];exact Ψ)]
      refine al (by simp;omega) ?_;refine aR pE ?_;refine W.to (zH e ⟨R,by rw[Qj,Fs]⟩ R) rfl ?_;simp[pE]
     ·have Fs:qE n l (e+1)=some e:=by rw[qE,if_neg (by rw[Fq,iN];exact Ψ)]
      refine aj (by simp;omega) ?_;refine W.exit rfl ?_;refine Ζ ?_;refine aj θ ?_;obtain⟨eB,af,iz,lΓ,bΖ,bΗ⟩:∃eB af,qF n l=some eB/\g=af+1/\rem=oz n af eB++kP n (i+1)/\qG n af eB=true:=by
       rcases Qi with⟨h,_⟩|h
       ·rw[ph,Fs] at h;cases h
       ·exact h
      have jX:eB=m1 l e (i-e):=by
       rw[ph,Fs] at iz;simp at iz;rw[<-iz,iN]
      have bΘ:IntKind.i64.wrap ((l[e]:Int)+1)=(l[e]:Int)+1:=IntWalk.i64_in _ R
      have Ql:IntKind.i64.wrap ((e:Int)+1)=(e:Int)+1:=IntWalk.i64_in _ R;refine aR (Μ nv (Μ Qk (Μ iN (Μ bΘ Ql)))) ?_;refine W.iter (λp:Nat=>e+1<=p/\p<=i) (λp=>[(0,r5 L),(1,.ab [J n]),(9,J ((n:Int)+1)),(10,J i),(3,J i),(4,.ms 2 i 0 i),(7,J p)]) (λp=>[js,ju,fB (m1 l e (p-e))]) (λp=>i-p) (e+1) ⟨Nat.le_refl _,R⟩ (by
       have:e+1-e=1:=R;rw[this,Zw nv];simp) (by simp[Ql]) (λp ψ aJ=>?_)
      obtain⟨mS,mT⟩:=ψ;refine Ζ ?_;by_cases Qm:p<i
      ·refine al (by simp[Qm]) ?_;obtain⟨q,lΔ⟩:=aF (p-1);obtain⟨ah,bc⟩:=aF (m1 l e (p-e));have uG:ah.length=i:=by rw[bc,Pu R,iN]
       have Qn:q<ah.length:=R
       have bΙ:p<ah.length:=R
       have bΚ:q<i:=R
       have Ft:ah[q]=l[e]+(p-e):=by
        have:=Zx (l:=l) (i:=e) (k:=p-e) R R
        have Δ:e+(p-e)-1=q:=R;rw[Δ,<-bc,Fq] at this;simpa[List.getD_eq_getElem?_getD,Qn] using this
       have rr:ah.set p (ah[q]+1)=m1 l e (p+1-e):=by
        have:=Zy (l:=l) (i:=e) (k:=p-e) R
        have Δ:e+(p-e)=p:=R
        have Γ:p-e+1=p+1-e:=R;rw[Δ,Γ,<-bc,Fq,<-Ft] at this;exact this
       have JM:ah[q]<100:=R
       have bΜ:IntKind.i64.wrap ((p:Int)-1)=(q:Int):=by rw[IntWalk.i64_in _ R];omega
       have bΝ:IntKind.i64.wrap ((ah[q]:Int)+1)=(ah[q]:Int)+1:=IntWalk.i64_in _ R
       have Qo:IntKind.i64.wrap ((p:Int)+1)=(p:Int)+1:=IntWalk.i64_in _ R;rw[<-bc];refine aR (Μ bΜ (Μ Qn (Μ bΙ (Μ bΚ (Μ Qm (Μ uG (Μ bΝ Qo))))))) ?_;refine W.to (aJ (p+1) ⟨R,R⟩ R) ?_ ?_
       ·rw[<-rr];simp
       ·simp[Qo]
      ·have JN:p=i:=by omega
       subst JN;refine aj θ ?_;refine W.exit rfl ?_
       repeat apply ar
       refine W.to (kr (af,eB) ⟨bΗ,by rw[jX,Pu R,iN],by rw[<-bΖ];exact JL⟩ (by show af<g;omega)) (by rw[jX]) ?_;simp
   ·rw[il rfl];have Bb:dj fg [] [] [(27,.z (.bool false))] (t.setIfInBounds 27 (.bool false)):=λj=>by
     simp only[a6];split
     ·rename_i e;subst e;have:(t.setIfInBounds 27 (Value.bool false)).getD 27 undef=.bool false:=by
       have bΞ:27<t.size:=by rw[ψ.size];omega
       simp[Array.getD_eq_getD_getElem?,bΞ]
      rw[this];exact .z _
     ·exact .cp _
    refine V.here (m:=0) (nt:=72) (S:=fg) (B:=[]) (σ:=[]) (env:=[(27,.z (.bool false))]) ?_ ⟨ys H',Bb,Eq.trans (Array.size_setIfInBounds ..) ψ.size,Nat.zero_le _⟩;refine V.fL γ rfl ?_;refine ft [3] [] ?_;refine W.bI ?_;refine al rfl ?_;refine W.stop ?_;refine V.I8 γ rfl rfl rfl rfl Tryz.func126 rfl λbM bR H1 qu jL=>?_;obtain rfl:bR=[]:=dw.1 jL.len;exact ν bM H1 qu.ext
 ·have ta:c=n+1:=by omega
  subst ta;refine aj θ ?_;refine W.exit rfl ?_;refine W.stop ?_;intro S B H t μ ψ lp aG;rw[Zs] at gB;refine aO.sy γ rfl rfl (aO.back γ rfl rfl (.inl rfl) Tryz.func126 ?_);rw[results_none rfl];rw[hm] at μ;exact π.pure' (hC.done gB S B H μ ψ.holds lp aG)
end
theorem bΟ (n:Nat):aD Tryz.prog 83 [J n] (.fn (.func 126) [] [.ab [J n]]):=by
 refine ao.body Φ Tryz.func83 rfl rfl Tryz.ntmps83 rfl rfl θ ?_;refine Ζ ?_;refine W.rt ?_;exact .refl _
theorem Ext.Qp {S:aH} {B:aU} {H:χ} {r:Nat} {y:Obj} (Χ:H.fresh r):Ext S B H S B (H.bL r y):=
 ⟨λ_ _ _ h=>h,λb _ hb=>by
  have:b≠r:=λe=>hb (e▸Χ);exact nu.of ⟨λ_=>rfl,rfl,by simp[χ.bL,this]⟩,λb h=>.inl h,λb o v h=>.inl h,χ.Hk⟩
theorem Holds.Qq {S:aH} {B:aU} {σ:List Row} {H:χ} (ω:Holds S B σ H) (l5:∀r∈σ,yz r) {b:Nat} (Χ:H.fresh b):¬B.has b:=λ⟨N,cl⟩=>by
 obtain⟨id,b0⟩:=List.getElem?_of_mem cl;have aB:id<σ.length:=by rw[<-ω.len];exact(cf.1 b0).1
 have κ:=a5 aB;obtain⟨t,k,l,e⟩:=l5 _ (cr κ);rw[e] at κ;exact ω.n6 κ trivial b0 Χ
def uV (s:aI) (F:List Found) (cell:Int) (lower:Bool):List Int×Int:=
 if(ot s cell F).2.2≠0 then([],(ot s cell F).2.2)
 else match (kP s.ak.length 0).find? (rO s F cell.toNat lower) with
 | some l=>(l.map λn:Nat=>(n:Int),0)
 | none=>([],11)
abbrev oB:Row:=.cells 29 1 [.sl true 0 []]
abbrev oC:Row:=.cells 38 1 [J 0]
abbrev yC (s:aI) (F:List Found) (cell:Int) (lower:Bool):aa:=[(3,.ab [aS s.ag,aQ s.ak,bl s.cells]),(4,.ab [J cell]),(5,.ab [bm lower]),(6,.an 0 1 0 0),(7,.an 1 1 0 0),(8,.ab [aS s.ag,aQ s.ak,bl s.cells]),(9,.ab [cX F])]
section
variable {Q:Value->Prop} {mn:Bool} {x:gV} {c:Frame} {rest:List Frame} {fq S:aH} {B:aU} {dS H:χ} {σ:List Row} {res:List Int×Int} {l:List Int} {gg:Int} {e:Bool} {kk:Nat} {b:Frame} {t:Array Value} {k:List Item} {env:aa}
theorem Qr (γ:Seq x) (l3:v5 Tryz.prog Q mn x c rest fq [] dS [] (λa s=>cW a (.bw [a2 J 1 res.1,J res.2])/\s=[]) (λ_ _=>False)) (bY:b.fn=28) (gR:b.kind=.normal) (eP:b.defers=[]) (bΡ:b.mode=.returning)
  (he:Ext fq [] dS S B H) (ω:Holds S B σ H) (ν:dj S B σ env b.tmps) (bd:a6 env 6=.an 0 1 0 0) (gT:a6 env 7=.an 1 1 0 0) (bΤ:σ[0]?=some (.cells 29 1 [.sl e kk (l.map J)])) (bΥ:σ[1]?=some (.cells 38 1 [J gg])) (e5:res=(l,gg)) (ς:l≠[]->kk=1):aO Tryz.prog Q mn x b (c::rest) H:=by
 subst e5;refine aO.back γ bΡ eP (.inl gR) (fn:=Tryz.f28) (by rw[bY];exact Tryz.func28) ?_;refine π.mono (λv hS ⟨iw,jV,e',vh,aE,ze⟩=>?_) (λ_ _ h=>h) _ (D7 Φ (a:=.bw [.sl e kk (l.map J),J gg]) (show qj a7 [.cell 6 29,.cell 7 38] env σ=some (.bw [.sl e kk (l.map J),J gg]) by simp[qj,sR,xZ,bd,gT,bΤ,bΥ,v8,im.agg,D6]) ω ν);obtain⟨I,U⟩:=aE.close (h:=0) (λid r b0=>R);simp only[List.take_zero] at I U;have κ:av (iw.close jV σ hS 0) [] [] (.bw [.sl e kk (l.map J),J gg]) v:=by
  have hb:ay 0 (.bw [.sl e kk (l.map J),J gg]):=θ
  have:=(ze.later (b'.refl iw jV σ)).any hb [] [];exact this.later ⟨λb o v hv=>U.di _ _ _ hv,λid r h=>by simp at h⟩
 have Qs:=he.trans (e'.trans U);refine l3.ret _ [] _ [] hS v ⟨?_,rfl⟩ Qs ⟨Qs.di,λid r h=>by simp at h⟩ I κ;refine .bw (.cons ?_ (.cons (.refl _) .nil));by_cases υ:l=[]
 ·subst υ;exact .nil
 ·rw[ς υ];exact .ex
end
noncomputable abbrev JO (vs:Array Value):Frame:=Frame.enter Tryz.prog 28 vs .normal
theorem bΦ {s:aI} {F:List Found} {cell:Int} (h:(ot s cell F).2.2=0):0<=cell/\cell<s.cells.length/\ot s cell F=(s,F,0):=by
 unfold ot at h ⊢;split at h
 ·rename_i I;simp at h;exact absurd h I
 ·split at h
  ·simp at h
  ·rename_i I U;rw[if_neg I,if_neg U];refine⟨R,R,?_⟩;unfold fN at h ⊢;rw[if_neg I] at h ⊢;split at h
   ·simp at h
   ·rename_i ξ;rw[if_neg ξ]
section
variable {Q:Value->Prop} {mn:Bool} {c:Frame} {rest:List Frame}
theorem bΧ (s:aI) (ν:s.small) (F:List Found) (gB:s7 s F) (cl:AI s F) (cell:Int) (lower:Bool) (Qt:s.ak.length<=4) :
  aD Tryz.prog 28 [fs s,J cell,bm lower] (.bw [a2 J 1 (uV s F cell lower).1,J (uV s F cell lower).2]):=by
 refine⟨⟨_,Tryz.func28,rfl,rfl⟩,λQ mn x c rest fq eC dS vs γ sx yD l3=>?_⟩;obtain rfl:eC=[]:=dw.1 sx.len;rw[qp (body:=Tryz.f28.body.getD .skip) Tryz.func28 rfl];refine V.here (x:=x) (m:=0) (nt:=35) (S:=fq) (B:=[]) (H:=dS) (σ:=[]) (env:=entry 0 [fs s,J cell,bm lower]) ?_ (fI.enter sx yD (Nat.le_refl _) θ);refine V.fL γ rfl ?_;simp only[Tryz.f28,Option.getD_some]
 repeat apply ar
 refine dG (A:=[6,7]) Φ λΕ ζ=>bT ?_;apply ζ;refine x5 ?_;refine dG (A:=[8,9]) Φ λΕ ζ=>bT ?_;refine aD.d (Yn s ν cell F gB) (bT ?_);apply ζ;by_cases b:(ot s cell F).2.2=0
 case neg=>
  have e:uV s F cell lower=([],(ot s cell F).2.2):=by unfold uV;rw[if_pos b]
  rw[e] at l3;generalize (ot s cell F).2.2=gg at b l3 ⊢;refine Ζ ?_;refine al (by simp[b]) ?_;refine Ζ ?_;refine W.stop ?_;intro iw jV hS t5 ky lz;refine aO.ret γ rfl rfl ?_;exact Qr γ l3 rfl rfl rfl rfl ky.ext lz.holds lz.cx rfl rfl rfl rfl rfl (λh=>absurd rfl h)
 obtain⟨jM,n8,e⟩:=bΦ b;obtain⟨n,rfl⟩:∃n:Nat,cell=n:=⟨cell.toNat,R⟩;have bX:n<s.cells.length:=R;have Γ:uV s F n lower=match (kP s.ak.length 0).find? (rO s F n lower) with|some l=>(l.map λn:Nat=>(n:Int),0)|none=>([],11):=by
  unfold uV;rw[if_neg (by simpa using b)];rfl
 rw[e];refine W.fix (id:=3) (σ':=[oB,oC,.cells 98 3 [fs s]]) (Nat.zero_le _) rfl θ (λid q b0 Ψ=>by
  match id,b0,Ψ with
  | 0,_,Ψ=>simp at Ψ;subst Ψ;simp[eW,η.cells]
  | 1,_,Ψ=>simp at Ψ;subst Ψ;simp[eW,η.cells]
  | 2,_,Ψ=>simp at Ψ;subst Ψ;simp[eW,η.cells]) rfl [(3,.ab [aS s.ag,aQ s.ak,bl s.cells]),(4,.ab [J n]),(5,.ab [bm lower]),(6,.an 0 1 0 0),(7,.an 1 1 0 0),(8,.an 2 1 0 0),(9,.ab [cX F]),(10,J 0)] (by simp[lb]) ?_
 refine W.fix (id:=2) (σ':=[oB,oC]) (Nat.zero_le _) rfl θ (λid q b0 Ψ=>by
  match id,b0,Ψ with
  | 0,_,Ψ=>simp at Ψ;subst Ψ;simp[eW,η.cells]
  | 1,_,Ψ=>simp at Ψ;subst Ψ;simp[eW,η.cells]) rfl ((10,J 0)::yC s F n lower) (by simp[lb]) ?_
 refine Ζ ?_;refine aj rfl ?_;refine Ζ ?_;refine bN λΕ ζ=>?_;refine aD.d (bΟ s.ak.length) (bT ?_);apply ζ
 repeat apply ar
 refine W.forget ((25,.fn (.func 126) [] [.ab [J s.ak.length]])::yC s F n lower) θ ?_;refine W.stop ?_;intro bM bR H1 t1 qu mS;have yh:∀r∈[oB,oC],yz r:=λr κ=>by
  simp only[List.mem_cons,List.not_mem_nil,or_false] at κ;rcases κ with rfl|rfl<;>exact⟨_,_,_,rfl⟩
 have b3:=mS.cx 25;simp only[a6,if_true] at b3;obtain⟨au,Bc⟩:=aF (t1.getD 25 undef);rw[<-Bc] at b3;cases b3 with
 | fn w1 mY Τ af aZ cA=>
 have bΨ:w1=#[]:=Array.eq_empty_of_size_eq_zero (by rw[<-Τ];rfl);subst bΨ;refine aO.rangeFunc γ rfl rfl (fo:=.tmp 25) Bc.symm ⟨_,Tryz.func126,rfl,rfl⟩ λr1 L I U=>?_;have JP:¬bR.has r1:=mS.holds.Qq yh I;have Fu:=mS.holds.bL (y:=.deferred (some [])) JP;have Fv:Ext bM bR H1 bM bR (H1.bL r1 (.deferred (some []))):=Ext.Qp I;have Bd:(H1.bL r1 (.deferred (some []))).obj r1=some (.deferred (some [])):=by simp[χ.bL]
 have bΩ:dS.fresh r1:=qu.ext.grow _ I
 have Fw:dS.fresh L:=qu.ext.grow _ (Fv.grow _ U);generalize lΕ:H1.bL r1 (.deferred (some []))=Qu at U Fu Fv Bd;have Fx:r1≠L:=λe=>by rw[e,U.2.2.1] at Bd;cases Bd
 have Qv:¬bR.has L:=Fu.Qq yh U
 have Qw:∀(S:aH) (B:aU) (H:χ) (σ:List Row),e7 2 bM bR Qu [oB,oC] S B H σ->b' bM S bR B [oB,oC] σ:=λS B H σ μ=>μ.all Fu θ
 have Qx:∀(uW:Frame) (S:aH) (B:aU) (H:χ) (σ:List Row) (env:aa) (l:List Int) (gg:Int) (e:Bool) (kk:Nat),uW.fn=28->uW.kind=.normal->uW.mode=.returning->uW.defers=[⟨.collected r1,#[]⟩]->Ext fq [] dS S B H->Holds S B σ H->¬B.has r1->H.obj r1=some (.deferred (some []))->
   dj S B σ env uW.tmps->a6 env 6=.an 0 1 0 0->a6 env 7=.an 1 1 0 0->σ[0]?=some (.cells 29 1 [.sl e kk (l.map J)])->σ[1]?=some (.cells 38 1 [J gg])->uV s F n lower=(l,gg)->(l≠[]->kk=1)->aO Tryz.prog Q mn x uW (c::rest) H:=
  λuW S B H σ env l gg e kk e3 eK iO sK uf cα cβ uP cγ cδ cε cζ cη cθ cι=>by
  refine aO.collected γ iO sK uP ?_;exact Qr γ l3 (b:={uW with defers:=[]}) e3 eK rfl iO (uf.bL bΩ ⟨_,uP⟩) (cα.bL cβ) cγ cδ cε cζ cη cθ cι
 rw[qp (body:=Tryz.f126.body.getD .skip) Tryz.func126 rfl];have JQ:fJ bM bR [oB,oC] ([r5 L]++[.ab [J s.ak.length]]) (#[.func (.yield L) #[] #[]]++mY):=by
  refine fJ.append ⟨rfl,λi a v e3 eK=>?_⟩ ⟨af,cA⟩
  match i with
  | 0=>simp at e3 eK;subst e3;subst eK;exact .fn #[] #[] rfl rfl (λi a v hi=>by simp at hi) (λi a v hi=>by simp at hi)
  | i+1=>simp at e3
 refine bΑ (o:=⟨bM,bR,Qu,[oB,oC],2⟩) (L:=L) (Fnd:=λrem=>(kP s.ak.length 0).find? (rO s F n lower)=rem.find? (rO s F n lower)) γ (Nat.le_trans Qt bD) ?_ rfl bM bR _ _ (e7.of (Ext.Qp U) (b'.refl ..)) (fI.enter (Fu.bL Qv) JQ (Nat.le_refl _) θ) Qv (by simp[χ.bL];rfl);refine⟨rfl,by simp[eW,η.cells],by simp[eW,η.cells],rfl,λl rem Fy cκ aB S B H ws lΖ μ ω lp aG hv cμ cν=>?_,λFy S B H μ ω lp aG=>?_⟩
 ·obtain⟨JR,sw⟩:=qD μ.ext JP Bd;have cξ:=Qw _ _ _ _ μ;have rK:=mS.cx.later cξ;have Be:Ext fq [] dS S B H:=qu.ext.trans (Fv.trans μ.ext);obtain⟨w0,rfl⟩:∃w0,ws=#[w0]:=by
   have I:=hv.1;clear hv;obtain⟨wl⟩:=ws
   match wl,I with
   | [w0],_=>exact⟨w0,rfl⟩
  have cο:((#[26]:Array Tmp).zip #[w0]).foldl (λtmps (t,a)=>tmps.setIfInBounds t a) t1=t1.setIfInBounds 26 w0:=θ;change aO Tryz.prog Q mn x (Frame.round L 28 (((#[26]:Array Tmp).zip #[w0]).foldl (λtmps (t,a)=>tmps.setIfInBounds t a) t1) _ _ .normal) _ _;rw[cο];have E2:av S B [oB,oC,fB l] (.ms 2 l.length 0 l.length) w0:=hv.2 0 _ _ rfl rfl;have cπ:l.length<2 ^ 30:=R;have Bb:dj S B [oB,oC,fB l] ((26,.ms 2 l.length 0 l.length)::yC s F n lower) (t1.setIfInBounds 26 w0):=wQ (dj.put rK (d:=26) (by rw[mS.size];omega) E2) θ;refine V.here (b:=Frame.round L 28 t1 .skip .skip .normal) (t:=t1.setIfInBounds 26 w0) (m:=3) (nt:=35) (S:=S) (B:=B) (H:=H) (σ:=[oB,oC,fB l]) (env:=(26,.ms 2 l.length 0 l.length)::yC s F n lower) ?_ ⟨ω,Bb,Eq.trans (Array.size_setIfInBounds ..) mS.size,Nat.le_refl _⟩;refine V.fL γ rfl ?_;refine Ζ ?_;refine W.stop ?_;intro kN kO jm t3 hG e8;obtain⟨Bf,Bg⟩:=qD hG.ext lp aG;obtain⟨cρ,cς⟩:=qD hG.ext JR sw;refine aO.beginRound γ rfl rfl Bg rfl ?_;refine V.here (b:=Frame.round L 28 t1 .skip .skip .normal) (m:=3) (nt:=35) ?_ ⟨e8.holds.bL Bf,e8.cx,e8.size,e8.rows⟩;refine V.fL γ rfl ?_;refine bN λΕ ζ=>?_;have cN:ay 0 (fs s):=θ;have qc:ay 0 (cX F):=θ;have gX:iR (fB l):=wv (f:=λn:Nat=>J n) λx=>by simp[η.cells]
  refine ao.one (as0:=[fs s,cX F,J n,bm lower,.ms 0 l.length 0 l.length]) (Y9 s ν F cl n bX lower l (Nat.le_trans cκ Qt) aB) 2 rfl gX gX (λa μ=>by
   simp only[List.mem_cons,List.not_mem_nil,or_false] at μ;rcases μ with rfl|rfl|rfl|rfl|rfl
   ·exact cN.iU 1
   ·exact qc.iU 1
   ·exact(ay.z _).iU 1
   ·exact(ay.z _).iU 1
   ·exact og.2 R) ((ay.z _).iU 1) (by simp[oh,oi,cN.ed [2],qc.ed [2]]) ?_
  simp[oi];(repeat (rw[Υ];simp[]));apply ζ;have JS:b' S kN B kO [oB,oC,fB l] [oB,oC,fB l]:=hG.all ω (Nat.le_refl _);have Bh:=λy=>(μ.ext.trans hG.ext).bL U (y:=y) ⟨_,Bg⟩;have cτ:=λy=>(Be.trans hG.ext).bL Fw (y:=y) ⟨_,Bg⟩;cases Qy:rO s F n lower l
  ·refine aj rfl ?_
   repeat apply ar
   refine W.stop ?_;intro iw jV hS t5 ky lz;obtain⟨Bi,Bj⟩:=qD ky.ext Bf (show(jm.bL L _).obj L=some (.loop _) by simp[χ.bL];rfl);have Fz:=ky.all (e8.holds.bL Bf) (Nat.le_refl _);refine aO.endRound γ rfl rfl rfl Bj (jump:=none) (.inl ⟨rfl,rfl⟩) (cμ (by rw[Fy,List.find?_cons,Qy]) iw jV _ ⟨((Bh _).trans ky.ext).bL U ⟨_,Bj⟩,?_⟩ (JS.trans Fz) (lz.holds.bL Bi) Bi (by simp[χ.bL]));exact μ.later.trans (JS.trans Fz)
  ·refine al rfl ?_;obtain⟨z,Θ⟩:=aF (l.map λn:Nat=>(n:Int));have cυ:fB l=.cells 3 1 (z.map J):=by rw[Θ,List.map_map];rfl
   have pa:z.length=l.length:=by rw[Θ,List.length_map]
   have Qz:=Y2 z (by rw[pa];exact cπ);rw[pa,<-cυ] at Qz;have QA:∀(e:Bool) (k:Nat),ay 0 (.sl e k (z.map J)):=λe k=>θ;refine bN λΕ ζ=>?_;refine ao.ID (as0:=[.ms 0 l.length 0 l.length]) Qz 2 rfl gX (by simp[og]) (by simp[oh]) (λa bp ai=>?_);obtain⟨⟨e,kk,rfl,rp⟩,rfl⟩:=ai;refine⟨fB l,rfl,gX,(QA e kk).iU 1,?_⟩;rw[(QA e kk).ed [2]];simp;(repeat (rw[Υ];simp[]));apply ζ;refine W.stop ?_;intro iw jV hS t5 ky lz;obtain⟨Bi,Bj⟩:=qD ky.ext Bf (show(jm.bL L _).obj L=some (.loop _) by simp[χ.bL];rfl);obtain⟨QB,cφ⟩:=qD ky.ext cρ (show(jm.bL L _).obj r1=some (.deferred (some [])) by simp[χ.bL,Fx,cς]);have Fz:=ky.all (e8.holds.bL Bf) (Nat.le_refl _);refine aO.endRound γ rfl rfl rfl Bj (jump:=some .ret) (.inr (.inl ⟨rfl,_,rfl⟩)) (cν _ λlΗ lΘ QC=>?_);obtain⟨e3,eK⟩:=(lz.holds.bL (y:=.loop _) Bi).sD (λb hb=>QC.sD hb) QC.grow;obtain⟨cχ,QD⟩:=qD eK Bi (show(hS.bL L _).obj L=some (.loop _) by simp[χ.bL];rfl);obtain⟨_,cψ⟩:=qD eK QB (show(hS.bL L _).obj r1=some (.deferred (some [])) by simp[χ.bL,Fx,cφ]);refine aO.Pf (b:={JO vs with defers:=[⟨.collected r1,#[]⟩]}) (t:=t1) γ rfl QD θ ?_;refine aO.ret (b:={JO vs with defers:=[⟨.collected r1,#[]⟩]}) γ rfl rfl ?_;refine Qx _ iw jV _ _ (yC s F n lower) z 0 e kk rfl rfl rfl rfl ((((((cτ _).trans ky.ext).bL Fw ⟨_,Bj⟩)).trans eK).bL Fw ⟨_,QD⟩) (e3.bL cχ) QB (by simp[χ.bL,Fx,cψ]) (wQ ((rK.later (JS.trans Fz))) θ) rfl rfl rfl rfl ?_ rp;rw[Γ,Fy,List.find?_cons,Qy,Θ]
 ·obtain⟨JR,sw⟩:=qD μ.ext JP Bd;have rK:=mS.cx.later (Qw _ _ _ _ μ);have o0:Ext fq [] dS S B H:=qu.ext.trans (Fv.trans μ.ext);refine aO.Pf (b:={JO vs with defers:=[⟨.collected r1,#[]⟩]}) (t:=t1) γ rfl aG θ ?_;refine V.here (m:=0) (nt:=35) (S:=S) (B:=B) (σ:=[oB,oC]) (env:=yC s F n lower) ?_ ⟨ω.bL lp,wQ rK θ,mS.size,Nat.zero_le _⟩;refine V.fL γ rfl ?_;simp only[Option.map_none,Option.toList_none,List.nil_append];refine Ζ ?_;refine W.stop ?_;intro iw jV hS t5 ky lz;have cω:∀y,(H.bL L y).obj r1=some (.deferred (some [])):=λy=>by simp[χ.bL,Fx,sw]
  obtain⟨k1,cJ⟩:=qD ky.ext JR (cω _);refine aO.ret γ rfl rfl ?_;refine Qx _ iw jV hS _ _ [] 11 true 0 rfl rfl rfl rfl ((o0.bL Fw ⟨_,aG⟩).trans ky.ext) lz.holds k1 cJ lz.cx rfl rfl rfl rfl ?_ (λh=>absurd rfl h);rw[Γ,Fy];rfl
end
end Go.TL
namespace Go.TL
open Go.Proofs
variable [bt]
def fu:aI:=⟨[⟨⟨#[98]⟩,9⟩,⟨⟨#[99]⟩,4⟩,⟨⟨#[100]⟩,6⟩,⟨⟨#[105]⟩,48⟩,⟨⟨#[111]⟩,12⟩],[[1,2],[0],[0,1,2]],[[⟨0,4,59⟩,⟨1,8,3⟩],[⟨0,0,63⟩,⟨1,4,8⟩]]⟩
theorem Bl:aD Tryz.prog 72 [] (fs fu):=by
 refine ao.body Φ Tryz.func72 rfl rfl Tryz.ntmps72 rfl rfl θ ?_
 repeat apply ar
 refine dG (A:=[0]) Φ λΕ ζ=>bT ?_;apply ζ
 repeat apply ar
 refine bN λΕ ζ=>?_;apply ζ;refine W.fix (id:=0) (σ':=[]) (Nat.zero_le _) rfl θ θ rfl [(0,.ab [.sl true 2 [eN ⟨⟨#[98]⟩,9⟩,eN ⟨⟨#[99]⟩,4⟩,eN ⟨⟨#[100]⟩,6⟩,eN ⟨⟨#[105]⟩,48⟩,eN ⟨⟨#[111]⟩,12⟩],.sl true 1 [eS [1,2],eS [0],eS [0,1,2]],.sl true 1 [.sl true 3 [eO ⟨0,4,59⟩,eO ⟨1,8,3⟩],.sl true 3 [eO ⟨0,0,63⟩,eO ⟨1,4,8⟩]]])] θ ?_;refine W.rt ?_;refine .aV (.cons .ex (.cons ?_ (.cons ?_ .nil)))
 ·exact .map (l:=[[1,2],[0],[0,1,2]]) (f:=eS) λx _=>.one .ex rfl rfl
 ·exact .map (l:=[[⟨0,4,59⟩,⟨1,8,3⟩],[⟨0,0,63⟩,⟨1,4,8⟩]]) (f:=λl:List eR=>.sl true 3 (l.map eO)) λx _=>.one .ex rfl rfl
end Go.TL
namespace Go.TL
open Go.Conc Go.Proofs
open Go.ConcN (sumTo upd sumTo_upd upd_ne upd_same sumTo_congr le_sumTo)
variable [bt]
section
variable {P:Program} {Q:Value->Prop} {mn:Bool} {y:aX} {f f' b:Frame} {cs cs':List Frame} {H:χ} {t:Array Value} {k:List Item} {ops:Array Oper} {i:Nat} {rest:List Nat} {op:Oper}
theorem cw.quiet (γ:eX y) (ν:∀w,stepG P mn (Go.Conc.G f cs) w=.go (Go.Conc.G f' cs') w #[]) (h:cw P Q mn y f' cs' H):cw P Q mn y f cs H:=
 Quiet.goes (.cons ⟨rfl,rfl⟩ ν (.nil _)) γ ⟨rfl,rfl⟩ h
theorem cw.next (γ:eX y) (hb:b.mode=.run) {id:Nat} {JU:Array Oper} {c:Code} (h:cw P Q mn y (ax b t (.inRegion JU (List.range JU.size)::.code c::k)) cs H):cw P Q mn y (ax b t (.inRegion ops []::.code (.seq (.region id JU false) c)::k)) cs H:=
 .quiet γ (λw=>(jf hb w).trans rfl) (.quiet γ (λw=>(jf hb w).trans rfl) (.quiet γ (λw=>(jf hb w).trans rfl) h))
theorem cΑ {ty:TypeId} {inf:TypeInfo} {z:Value} (hi:P.info? ty=some inf) (Θ:inf.zero=some z) (w:World) :
  (Instr.alloc ty true (.tuple #[])).run P w=.ok (ptr w.heap.size 0) (w.alloc (.cells z.cells ty (0,0)))/\∀es,(Instr.alloc ty true (.tuple #[])).events P w es=es:=by
 constructor
 ·simp[Instr.alloc,zeroValue,typeInfo,newVar,newRow,hi,Θ,Result.andThen]
 ·intro es;simp[Instr.alloc,zeroValue,typeInfo,newVar,newRow,hi,Θ,Result.andThen,Result.evThen]
theorem cw.JV {ty:TypeId} {inf:TypeInfo} {z:Value} (eh:y.rel=false) (bW:mZ b ops i op) (Ξ:op.op=.alloc ty) (Ρ:op.guard=none) (hi:P.info? ty=some inf) (Θ:inf.zero=some z)
  (h:∀r,H.fresh r->(∀Ω v,y.aK Ω=some v->Ω<r)->cw P Q mn {y with aK:=upd y.aK r (some (z.cells,ty))} (ax b (put op t (ptr r 0)) (.inRegion ops rest::k)) cs H):cw P Q mn y (ax b t (.inRegion ops (i::rest)::k)) cs H:=by
 refine Goes.step (eX.ok (.inl eh)) (.inr ⟨⟨rfl,rfl⟩,.inl λw Χ hv=>?_⟩);obtain⟨r1,r2⟩:=cΑ (P:=P) hi Θ w;have hw:Region.wanted op (yielded ops t)=true:=by unfold Region.wanted;rw[Ρ]
 have zL:stepG P mn (Go.Conc.G (ax b t (.inRegion ops (i::rest)::k)) cs) w=.go (Go.Conc.G (ax b (put op t (ptr w.heap.size 0)) (.inRegion ops rest::k)) cs) (w.alloc (.cells z.cells ty (0,0))) #[]:=by
  have e:execOp (br t) op=(do pure (.value (<-Instr.alloc ty true (.tuple #[])))):=by unfold execOp;rw[Ξ]
  rw[gI bW.run bW.ro,gI bW.run bW.ro,<-uK];have κ:(execOp (⟨t,b.defers⟩:_root_.Go.Act).eval op).run P w=.ok (.value (ptr w.heap.size 0)) (w.alloc (.cells z.cells ty (0,0))):=by rw[mc,e];simp[r1,Result.andThen]
  have he:(execOp (⟨t,b.defers⟩:_root_.Go.Act).eval op).events P w #[]=#[]:=by rw[mc,e];simp[r1,r2,Result.evThen]
  rw[stepG_value bW.op hw bW.kd κ];unfold listed;rw[he,seen_none]
 rw[zL];have hu:=(dJ.start Χ).row z.cells ty;have Bm:χ.fresh H w.heap.size:=Χ.fresh;have j7:Sub H (H.dA w.heap.size z.cells ty):=by
  refine⟨λΩ o v p hb=>⟨p,?_,id⟩,λΩ x hb=>?_,λΩ x hb=>hb⟩
  ·have:Ω≠w.heap.size:=λe=>by rw[e,Bm.1 o] at hb;cases hb
   simpa[χ.dA,this] using hb
  ·have:Ω≠w.heap.size:=λe=>by rw[e,Bm.2.1] at hb;cases hb
   simpa[χ.dA,this] using hb
 have aB:∀Ω v,y.aK Ω=some v->Ω<w.heap.size:=λΩ v hb=>by
  have:=hv Ω v.1 v.2 hb;exact(Array.getElem?_eq_some_iff.1 this).1
 refine⟨H,upd y.aK w.heap.size (some (z.cells,ty)),⟨rfl,rfl⟩,hu.keeps,j7.fits hu.fit,λΩ c' t' hb=>?_,⟨λΩ o v p hb=>.inr ⟨v,p,hb,id⟩,λΩ hb=>.inr hb⟩,λΩ c' hb=>?_,λe he=>by simp at he,λΩ c' _ _ e he=>by simp at he,h _ Bm aB⟩
 ·by_cases e:Ω=w.heap.size
  ·subst e;rw[upd_same] at hb;cases hb;exact CU
  ·rw[upd_ne _ _ e] at hb;have I:=hv Ω c' t' hb;have U:=aB Ω _ hb;show(w.heap.push _)[Ω]?=_;rw[Array.getElem?_push_lt U];rw[fh U] at I;exact I
 ·by_cases e:Ω=w.heap.size
  ·exact .inr ⟨Nat.le_of_eq e.symm,⟨λo ⟨x,γ⟩=>(by rw[e,Bm.1 o] at γ;cases γ),λ⟨x,γ⟩=>(by rw[e,Bm.2.2.1] at γ;cases γ)⟩⟩
  ·rw[upd_ne _ _ e] at hb;exact .inl hb
theorem cΒ {B:Type} {s:Nat}:upd (λ_=>(none:Option B)) s none=λ_=>none:=by
 funext i
 by_cases e:i=s
 ·subst e;exact upd_same ..
 ·exact upd_ne _ _ e
theorem cw.group {sp:Spec} {s m o:Nat} {ty JW Bn:TypeId} {c:Array Value} (eh:y.rel=false) (fR:y.aK=λ_=>none) (su:m<s) (JX:s<o) (fw:sp.aW=some m) (xR:H.fresh o) (dp:sp.aN [] (χ.empty.dA o c Bn))
  (h:cw P Q mn {y with tok:=upd y.tok s (.par 0 0 .add),spec:=upd y.spec s (some sp),view:=upd y.view s none} f cs H) :
  cw P Q mn {y with aK:=upd (upd (upd y.aK m (some (#[.int .i32 0,.int .u32 0],JW))) s (some (#[.int .u64 0,.int .u32 0],ty))) o (some (c,Bn))} f cs H:=by
 have hP:s≠o:=Nat.ne_of_lt JX
 have gb:m≠o:=R
 have CK:m≠s:=Nat.ne_of_lt su;refine Goes.step (eX.ok (.inl eh)) (.inr ⟨⟨rfl,rfl⟩,.inr (.inr (.inr (.inr (.inr (.inr (.inr (.inr (.inr (.inr (.inl ⟨o,c,Bn,upd_same ..,?_⟩))))))))))⟩);refine Goes.step (eX.ok (.inl eh)) (.inr ⟨⟨rfl,rfl⟩,.inr (.inr (.inr (.inr (.inr (.inr (.inr (.inr (.inr (.inr (.inr ⟨s,sp,ty,H,χ.empty.dA o c Bn,?_,λb7 dg=>?_,eh,?_,λ_=>dp,?_⟩))))))))))⟩)
 ·show upd (upd _ o _) o none s=_;rw[upd_ne _ _ hP,upd_ne _ _ hP,upd_same]
 ·rw[fw] at dg;cases dg;refine⟨CK,JW,?_⟩;show upd (upd _ o _) o none m=_;rw[upd_ne _ _ gb,upd_ne _ _ gb,upd_ne _ _ CK,upd_same]
 ·refine⟨⟨λΩ q v p hb=>⟨p,?_,id⟩,λΩ x hb=>?_,λΩ x hb=>hb⟩,⟨λΩ q v p hb=>⟨p,?_,id⟩,λΩ x hb=>?_,λΩ x hb=>(by cases hb)⟩,⟨λΩ q ⟨v,hv⟩ ⟨x,γ⟩=>?_,λΩ q ⟨v,hv⟩ ⟨x,γ⟩=>?_,λΩ _ ⟨x,γ⟩=>(by cases γ)⟩⟩
  ·have:Ω≠o:=λe=>by rw[e,xR.1 q] at hb;cases hb
   simpa[this] using hb
  ·have:Ω≠o:=λe=>by rw[e,xR.2.1] at hb;cases hb
   simpa[this] using hb
  ·by_cases e:Ω=o
   ·simpa[χ.dA,e] using hb
   ·simp[χ.dA,e,χ.empty] at hb
  ·by_cases e:Ω=o
   ·simpa[χ.dA,e] using hb
   ·simp[χ.dA,e,χ.empty] at hb
  ·by_cases e:Ω=o
   ·rw[e,xR.1 q] at hv;cases hv
   ·simp[χ.dA,e,χ.empty] at γ
  ·by_cases e:Ω=o
   ·rw[e,xR.1 q] at γ;cases γ
   ·simp[χ.dA,e,χ.empty] at hv
 ·have e:(λΩ=>if Ω=s\/sp.aW=some Ω then none else upd (upd (upd (upd y.aK m (some (#[.int .i32 0,.int .u32 0],JW))) s (some (#[.int .u64 0,.int .u32 0],ty))) o (some (c,Bn))) o none Ω)=y.aK:=by
   funext Ω
   rw[fR];by_cases Δ:Ω=s\/sp.aW=some Ω
   ·rw[if_pos Δ]
   ·rw[if_neg Δ];rw[fw] at Δ;have Γ:Ω≠s:=λe=>Δ (.inl e);have a0:Ω≠m:=λe=>Δ (.inr (by rw[e]));by_cases cG:Ω=o
    ·rw[cG,upd_same]
    ·rw[upd_ne _ _ cG,upd_ne _ _ cG,upd_ne _ _ Γ,upd_ne _ _ a0]
  have cU:Goes P Q mn (Go.Conc.G f cs) {y with G:=H,aK:=y.aK,tok:=upd y.tok s (.par 0 0 .add),spec:=upd y.spec s (some sp),view:=upd y.view s none}:=h;rw[<-e] at cU;exact cU
theorem cw.Hd {s n p:Nat} {sp:Spec} {g:FuncId} {mY:Array Value} (eh:y.rel=false) (tT:y.deaf=0) (b2:y.spec s=some sp) (Ν:y.tok s=.par n (p+1) .add) (bW:mZ b ops i op) (Ρ:op.guard=none) {fo:Operand} {ea:Array TypeId} (Ξ:op.op=.go ⟨.value fo,#[],ea⟩) (rA:op.dst=none)
  (hv:br t fo=.func (.func g) #[] mY) {S:aH} (ω:Holds S [] [] H) (I:cw P Q mn {y with tok:=upd y.tok s (.par n p .add),view:=upd y.view s none} (ax b t (.inRegion ops rest::k)) cs (rZ S H))
  (U:Goes P Q false (born P ⟨.fn (.func g) mY,#[]⟩) {bx (mf s sp) s (.ch (n-(p+1)) .idle .work) none 0 with G:=m7 S}):cw P Q mn y (ax b t (.inRegion ops (i::rest)::k)) cs H:=by
 have hw:Region.wanted op (yielded ops t)=true:=by unfold Region.wanted;rw[Ρ]
 have zL:∀w,stepG P mn (Go.Conc.G (ax b t (.inRegion ops (i::rest)::k)) cs) w=.spawn (Go.Conc.G (ax b t (.inRegion ops rest::k)) cs) (born P ⟨.fn (.func g) mY,#[]⟩) w #[]:=λw=>by
  have e:execOp (br t) op=(do pure (.spawn (<-Deferred.ofValue (br t fo) (#[].map (br t))))):=by unfold execOp;rw[Ξ];rfl
  rw[gI bW.run bW.ro,gI bW.run bW.ro];have κ:(execOp (⟨t,b.defers⟩:_root_.Go.Act).eval op).run P w=.ok (.spawn ⟨.fn (.func g) mY,#[]⟩) w:=by rw[mc,e,hv];simp[Deferred.ofValue,Result.andThen]
  have he:(execOp (⟨t,b.defers⟩:_root_.Go.Act).eval op).events P w #[]=#[]:=by rw[mc,e,hv];simp[Deferred.ofValue,Result.andThen,Result.evThen]
  rw[stepG_spawn (a:=⟨t,b.defers⟩) bW.op hw bW.kd κ rfl];have:(⟨t,b.defers⟩:_root_.Go.Act).put op.dst undef=⟨t,b.defers⟩:=by rw[rA];rfl
  rw[this];unfold listed;rw[he,seen_none]
 refine Goes.step (eX.ok (.inl eh)) (.inr ⟨⟨rfl,rfl⟩,.inr (.inr (.inr (.inr (.inr (.inr (.inr (.inr (.inl ⟨s,sp,n,p,Go.Conc.G (ax b t (.inRegion ops rest::k)) cs,born P ⟨.fn (.func g) mY,#[]⟩,rZ S H,m7 S,b2,Ν,tT,⟨rfl,rfl⟩,⟨rfl,rfl⟩,eh,λw _=>zL w,aΨ ω,I,?_⟩))))))))⟩);have e:({bx (mf s sp) s (.ch (n-(p+1)) .idle .work) none 0 with G:=m7 S}:aX)=⟨m7 S,λ_=>none,upd (λ_=>.nil) s (.ch (n-(p+1)) .idle .work),upd (λ_=>none) s (some sp),λ_=>none,0,false⟩:=by
  unfold bx;simp only[cΒ]
 rw[<-e];exact U
end
end Go.TL
