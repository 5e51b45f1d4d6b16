import Derived.Conc.Beside
import Derived.Conc.MuSpec
import GoSem.Core.World
set_option maxHeartbeats 16000000
set_option maxRecDepth 20000
set_option linter.unusedSectionVars false
set_option linter.unusedSimpArgs false
set_option linter.unusedVariables false
namespace Go.TL
theorem aW {α : Type _} {l : List α} {i : Nat} (h : i < l.length) : l[i]? = some l[i] := List.getElem?_eq_getElem h
theorem b7 {α : Type _} {l : List α} {i : Nat} {a : α} : l[i]? = some a ↔ ∃ h : i < l.length, l[i] = a := List.getElem?_eq_some_iff
theorem ck {α : Type _} {l : List α} {i : Nat} {a : α} (e : l[i]? = some a) : a ∈ l := List.mem_of_getElem? e
theorem dp {α : Type _} {l : List α} : l.length = 0 ↔ l = [] := List.length_eq_zero_iff
theorem dB {α : Type _} {l₁ BJ : List α} {i : Nat} (Η : i < l₁.length) : (l₁ ++ BJ)[i]? = l₁[i]? := List.getElem?_append_left Η
theorem fS {α : Type _} {l₁ BJ : List α} {i : Nat} (h : l₁.length <= i) : (l₁ ++ BJ)[i]? = BJ[i - l₁.length]? := List.getElem?_append_right h
theorem e7 {α : Type _} {xs : Array α} {i : Nat} (h : i < xs.size) : xs[i]? = some xs[i] := Array.getElem?_eq_getElem h
def Obj.r6:Obj->Bool
 | .cells ..=>true
 | _=>false
structure Α where
 aG:Nat->Nat->Option (Value×Bool)
 row:Nat->Option (TypeId×Nat)
 obj:Nat->Option Obj
def Α.empty:Α:=⟨λ_ _=>none,λ_=>none,λ_=>none⟩
end Go.TL
namespace Go.TL
open Go.Conc
open Go.ConcM (OsLater)
structure Fits (G:Α) (w:World):Prop where
 aG:∀b o v p,G.aG b o=some (v,p)->w.cell? ⟨b,o,none⟩=some v
 row:∀b t n,G.row b=some (t,n)->∃c,w.heap[b]?=some (.cells c t (0,0))/\c.size=n
 obj:∀b x,G.obj b=some x->w.heap[b]?=some x/\Obj.r6 x=false
def Α.owns (G:Α) (b o:Nat):Prop:=∃v,G.aG b o=some (v,true)
def Α.has (G:Α) (b o:Nat):Prop:=∃x,G.aG b o=some x
def Α.eY (G:Α) (b:Nat):Prop:=∃x,G.obj b=some x
structure Apart (G H:Α):Prop where
 aG:∀b o,G.owns b o->¬H.has b o
 qJ:∀b o,H.owns b o->¬G.has b o
 obj:∀b,G.eY b->¬H.eY b
def Α.off (G:Α) (b:Nat):Prop:=(∀o,¬G.has b o)/\¬G.eY b
structure fq (own:Nat->Nat->Prop) (xc:Nat->Prop) (w w':World):Prop where
 size:w.heap.size<=w'.heap.size
 cells:∀b c t dI,w.heap[b]?=some (.cells c t dI)->∃c',w'.heap[b]?=some (.cells c' t dI)/\c'.size=c.size/\∀o,¬own b o->c'[o]?=c[o]?
 m8:∀b x,w.heap[b]?=some x->Obj.r6 x=false->¬xc b->w'.heap[b]?=some x
 os:OsLater w.os w'.os
 output:w'.output=w.output
 tape:w'.tape=w.tape
theorem fr {w:World} {b:Nat} {x:Obj} (h:w.heap[b]?=some x):b<w.heap.size:=by
 rcases Nat.lt_or_ge b w.heap.size with cJ|cJ
 ·exact cJ
 ·rw[Array.getElem?_eq_none cJ] at h;cases h
theorem qK {w:World} {b o:Nat} {v:Value} (h:w.cell? ⟨b,o,none⟩=some v):∃c t dI,w.heap[b]?=some (.cells c t dI)/\c[o]?=some v:=by
 unfold World.cell? at h;cases hb:w.heap[b]? with
 | none=>simp[hb] at h
 | some x=>
  cases x<;>simp[hb] at h;exact⟨_,_,_,rfl,h⟩
theorem nS {w:World} {b o:Nat} {v:Value} {c:Array Value} {t:TypeId} {dI:Nat×Nat} (h:w.heap[b]?=some (.cells c t dI)) (hv:c[o]?=some v):w.cell? ⟨b,o,none⟩=some v:=by
 simp[World.cell?,h,hv]
theorem fq.refl (own:Nat->Nat->Prop) (xc:Nat->Prop) (w:World):fq own xc w w:=
 ⟨Nat.le_refl _,λb c t dI h=>⟨c,h,rfl,λ_ _=>rfl⟩,λ_ _ h _ _=>h,OsLater.refl _,rfl,rfl⟩
theorem Fits.keeps {own:Nat->Nat->Prop} {xc:Nat->Prop} {w w':World} {H:Α} (Φ:Fits H w) (χ:fq own xc w w') (J:∀b o,own b o->¬H.has b o) (γ:∀b,xc b->¬H.eY b):Fits H w':=by
 refine⟨λb o v p h=>?_,λb t n h=>?_,λb x h=>?_⟩
 ·obtain⟨c,t,dI,hb,hv⟩:=qK (Φ.aG b o v p h);obtain⟨c',db,_,ζ⟩:=χ.cells b c t dI hb;exact nS db (by rw[ζ o λx=>J b o x ⟨_,h⟩];exact hv)
 ·obtain⟨c,hb,ο⟩:=Φ.row b t n h;obtain⟨c',db,iM,_⟩:=χ.cells b c t _ hb;exact⟨c',db,by rw[iM,ο]⟩
 ·obtain⟨hb,U⟩:=Φ.obj b x h;exact⟨χ.m8 b x hb U λy=>γ b y ⟨_,h⟩,U⟩
theorem Fits.at {H:Α} {w:World} (h:Fits H w) (d:Nat):Fits H (w.at d):=⟨h.aG,h.row,h.obj⟩
structure df (t:Trace) (jm:Nat->Prop) (G:Α):Prop where
 aG:∀b o v p,G.aG b o=some (v,p)->∀i a,touchAt t i=some a->a.loc=.cell ⟨b,o,none⟩->(p=true\/a.write=true)->jm i
 obj:∀b,G.eY b->∀i a,touchAt t i=some a->a.loc=.obj b->jm i
theorem df.mono {t:Trace} {jm yX:Nat->Prop} {G:Α} (h:df t jm G) (χ:∀i,jm i->yX i):df t yX G:=
 ⟨λb o v p ζ i a ξ ω hw=>χ i (h.aG b o v p ζ i a ξ ω hw),λb hb i a ξ ω=>χ i (h.obj b hb i a ξ ω)⟩
def nT (l:Loc) (b:Nat):Prop:=
 match l with
 | .cell a=>a.block=b
 | .obj r=>r=b
 | _=>False
def ha (G:Α) (n iN:Nat) (e:Event):Prop:=
 match e.loc with
 | .cell a=>(n<=a.block/\a.block<iN)\/(a.spot=none/\(if e.write then G.owns a.block a.off else G.has a.block a.off))
 | .obj r=>e.sync=false/\((n<=r/\r<iN)\/G.eY r)
 | .output=>True
 | .goroutines=>False
 | .mark m=>m=.noRoom
theorem m9 {t u:Trace} {i:Nat} {a:Touch} (h:touchAt (t++u) i=some a):touchAt t i=some a\/(t.size<=i/\∃op∈u,(t++u)[i]?=some op/\op.act.touch?=some a):=by
 obtain⟨x,U,tr⟩:=touch_of h;rcases getElem?_append_cases U with⟨_,hy⟩|⟨hle,S6⟩
 ·exact .inl (by rw[touchAt_of hy];exact tr)
 ·exact .inr ⟨hle,x,S6,U,tr⟩
theorem df.own {t u:Trace} {i:Nat} {G:Α} (h:df t (Knows t i) G) (hu:∀op∈u,op.g=i):df (t++u) (Knows (t++u) i) G:=by
 refine⟨λb o v p ζ k a ξ ω hw=>?_,λb hb k a ξ ω=>?_⟩
 ·rcases m9 ξ with dO|⟨_,op,Ν,χ,_⟩
  ·exact(h.aG b o v p ζ k a dO ω hw).app u
  ·have:=knows_own χ;rwa [hu op Ν] at this
 ·rcases m9 ξ with dO|⟨_,op,Ν,χ,_⟩
  ·exact(h.obj b hb k a dO ω).app u
  ·have:=knows_own χ;rwa [hu op Ν] at this
theorem df.others {t u:Trace} {jm yX:Nat->Prop} {G:Α} (h:df t jm G) (χ:∀i,jm i->yX i)
  (hu:∀op∈u,∀a,op.act.touch?=some a->(∀b o v p,a.loc=.cell ⟨b,o,none⟩->G.aG b o=some (v,p)->p=false/\a.write=false)/\∀b,a.loc=.obj b->¬G.eY b):df (t++u) yX G:=by
 refine⟨λb o v p ζ k a ξ ω hw=>?_,λb hb k a ξ ω=>?_⟩
 ·rcases m9 ξ with dO|⟨_,op,Ν,_,U⟩
  ·exact χ _ (h.aG b o v p ζ k a dO ω hw)
  ·have:=((hu op Ν a U).1 b o v p ω ζ);rcases hw with hw|hw
   ·rw[this.1] at hw;cases hw
   ·rw[this.2] at hw;cases hw
 ·rcases m9 ξ with dO|⟨_,op,Ν,_,U⟩
  ·exact χ _ (h.obj b hb k a dO ω)
  ·exact absurd hb ((hu op Ν a U).2 b ω)
end Go.TL
