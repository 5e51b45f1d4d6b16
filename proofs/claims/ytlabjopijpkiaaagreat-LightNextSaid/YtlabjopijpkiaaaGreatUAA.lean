import Derived.Conc.Beside
import Derived.Conc.MuSpec
import GoSem.Core.World
set_option maxHeartbeats 16000000
set_option maxRecDepth 20000
set_option linter.unusedSectionVars false
set_option linter.unusedSimpArgs false
set_option linter.unusedVariables false
namespace Go.TL
theorem a5 {α : Type _} {l : List α} {i : Nat} (h : i < l.length) : l[i]? = some l[i] := List.getElem?_eq_getElem h
theorem cf {α : Type _} {l : List α} {i : Nat} {a : α} : l[i]? = some a ↔ ∃ h : i < l.length, l[i] = a := List.getElem?_eq_some_iff
theorem cr {α : Type _} {l : List α} {i : Nat} {a : α} (e : l[i]? = some a) : a ∈ l := List.mem_of_getElem? e
theorem dw {α : Type _} {l : List α} : l.length = 0 ↔ l = [] := List.length_eq_zero_iff
theorem dE {α : Type _} {vc B8 : List α} {i : Nat} (Η : i < vc.length) : (vc ++ B8)[i]? = vc[i]? := List.getElem?_append_left Η
theorem gl {α : Type _} {vc B8 : List α} {i : Nat} (h : vc.length <= i) : (vc ++ B8)[i]? = B8[i - vc.length]? := List.getElem?_append_right h
theorem fh {α : Type _} {xs : Array α} {i : Nat} (h : i < xs.size) : xs[i]? = some xs[i] := Array.getElem?_eq_getElem h
theorem R {p:Prop} (h:p:=by omega):p:=h
theorem θ {p:Prop} (h:p:=by simp):p:=h
theorem bD {p:Prop} (h:p:=by decide):p:=h
theorem cZ {α:Sort _} (a:α):∃x,a=x:=⟨a,rfl⟩
theorem aF {α:Sort _} (a:α):∃x,x=a:=⟨a,rfl⟩
def Obj.se:Obj->Bool
 | .cells ..=>true
 | _=>false
structure χ where
 aL:Nat->Nat->Option (Value×Bool)
 row:Nat->Option (TypeId×Nat)
 obj:Nat->Option Obj
def χ.empty:χ:=⟨λ_ _=>none,λ_=>none,λ_=>none⟩
end Go.TL
namespace Go.TL
open Go.Conc
open Go.ConcM (OsLater)
structure Fits (G:χ) (w:World):Prop where
 aL:∀b o v p,G.aL b o=some (v,p)->w.cell? ⟨b,o,none⟩=some v
 row:∀b t n,G.row b=some (t,n)->∃c,w.heap[b]?=some (.cells c t (0,0))/\c.size=n
 obj:∀b x,G.obj b=some x->w.heap[b]?=some x/\Obj.se x=false
def χ.owns (G:χ) (b o:Nat):Prop:=∃v,G.aL b o=some (v,true)
def χ.has (G:χ) (b o:Nat):Prop:=∃x,G.aL b o=some x
def χ.e9 (G:χ) (b:Nat):Prop:=∃x,G.obj b=some x
structure Apart (G H:χ):Prop where
 aL:∀b o,G.owns b o->¬H.has b o
 qU:∀b o,H.owns b o->¬G.has b o
 obj:∀b,G.e9 b->¬H.e9 b
def χ.off (G:χ) (b:Nat):Prop:=(∀o,¬G.has b o)/\¬G.e9 b
structure fD (own:Nat->Nat->Prop) (xi:Nat->Prop) (w w':World):Prop where
 size:w.heap.size<=w'.heap.size
 cells:∀b c t dQ,w.heap[b]?=some (.cells c t dQ)->∃c',w'.heap[b]?=some (.cells c' t dQ)/\c'.size=c.size/\∀o,¬own b o->c'[o]?=c[o]?
 nd:∀b x,w.heap[b]?=some x->Obj.se x=false->¬xi b->w'.heap[b]?=some x
 os:OsLater w.os w'.os
 output:w'.output=w.output
 tape:w'.tape=w.tape
theorem fE {w:World} {b:Nat} {x:Obj} (h:w.heap[b]?=some x):b<w.heap.size:=by
 rcases Nat.lt_or_ge b w.heap.size with cU|cU
 ·exact cU
 ·rw[Array.getElem?_eq_none cU] at h;cases h
theorem qV {w:World} {b o:Nat} {v:Value} (h:w.cell? ⟨b,o,none⟩=some v):∃c t dQ,w.heap[b]?=some (.cells c t dQ)/\c[o]?=some v:=by
 unfold World.cell? at h;cases hb:w.heap[b]? with
 | none=>simp[hb] at h
 | some x=>
  cases x<;>simp[hb] at h;exact⟨_,_,_,rfl,h⟩
theorem nU {w:World} {b o:Nat} {v:Value} {c:Array Value} {t:TypeId} {dQ:Nat×Nat} (h:w.heap[b]?=some (.cells c t dQ)) (hv:c[o]?=some v):w.cell? ⟨b,o,none⟩=some v:=by
 simp[World.cell?,h,hv]
theorem fD.refl (own:Nat->Nat->Prop) (xi:Nat->Prop) (w:World):fD own xi w w:=
 ⟨Nat.le_refl _,λb c t dQ h=>⟨c,h,rfl,λ_ _=>rfl⟩,λ_ _ h _ _=>h,OsLater.refl _,rfl,rfl⟩
theorem Fits.keeps {own:Nat->Nat->Prop} {xi:Nat->Prop} {w w':World} {H:χ} (Χ:Fits H w) (ς:fD own xi w w') (I:∀b o,own b o->¬H.has b o) (U:∀b,xi b->¬H.e9 b):Fits H w':=by
 refine⟨λb o v p h=>?_,λb t n h=>?_,λb x h=>?_⟩
 ·obtain⟨c,t,dQ,hb,hv⟩:=qV (Χ.aL b o v p h);obtain⟨c',dF,_,ε⟩:=ς.cells b c t dQ hb;exact nU dF (by rw[ε o λx=>I b o x ⟨_,h⟩];exact hv)
 ·obtain⟨c,hb,ν⟩:=Χ.row b t n h;obtain⟨c',dF,iY,_⟩:=ς.cells b c t _ hb;exact⟨c',dF,by rw[iY,ν]⟩
 ·obtain⟨hb,γ⟩:=Χ.obj b x h;exact⟨ς.nd b x hb γ λy=>U b y ⟨_,h⟩,γ⟩
theorem Fits.at {H:χ} {w:World} (h:Fits H w) (d:Nat):Fits H (w.at d):=⟨h.aL,h.row,h.obj⟩
structure dk (t:Trace) (jB:Nat->Prop) (G:χ):Prop where
 aL:∀b o v p,G.aL b o=some (v,p)->∀i a,touchAt t i=some a->a.loc=.cell ⟨b,o,none⟩->(p=true\/a.write=true)->jB i
 obj:∀b,G.e9 b->∀i a,touchAt t i=some a->a.loc=.obj b->jB i
theorem dk.mono {t:Trace} {jB y':Nat->Prop} {G:χ} (h:dk t jB G) (ς:∀i,jB i->y' i):dk t y' G:=
 ⟨λb o v p ε i a μ υ hw=>ς i (h.aL b o v p ε i a μ υ hw),λb hb i a μ υ=>ς i (h.obj b hb i a μ υ)⟩
def nV (l:Loc) (b:Nat):Prop:=
 match l with
 | .cell a=>a.block=b
 | .obj r=>r=b
 | _=>False
def hl (G:χ) (n iZ:Nat) (e:Event):Prop:=
 match e.loc with
 | .cell a=>(n<=a.block/\a.block<iZ)\/(a.spot=none/\(if e.write then G.owns a.block a.off else G.has a.block a.off))
 | .obj r=>e.sync=false/\((n<=r/\r<iZ)\/G.e9 r)
 | .output=>True
 | .goroutines=>False
 | .mark m=>m=.noRoom
theorem nf {t u:Trace} {i:Nat} {a:Touch} (h:touchAt (t++u) i=some a):touchAt t i=some a\/(t.size<=i/\∃op∈u,(t++u)[i]?=some op/\op.act.touch?=some a):=by
 obtain⟨x,γ,qW⟩:=touch_of h;rcases getElem?_append_cases γ with⟨_,hM⟩|⟨hle,Tf⟩
 ·exact .inl (by rw[touchAt_of hM];exact qW)
 ·exact .inr ⟨hle,x,Tf,γ,qW⟩
theorem dk.own {t u:Trace} {i:Nat} {G:χ} (h:dk t (Knows t i) G) (hu:∀op∈u,op.g=i):dk (t++u) (Knows (t++u) i) G:=by
 refine⟨λb o v p ε k a μ υ hw=>?_,λb hb k a μ υ=>?_⟩
 ·rcases nf μ with eo|⟨_,op,Ξ,ς,_⟩
  ·exact(h.aL b o v p ε k a eo υ hw).app u
  ·have:=knows_own ς;rwa [hu op Ξ] at this
 ·rcases nf μ with eo|⟨_,op,Ξ,ς,_⟩
  ·exact(h.obj b hb k a eo υ).app u
  ·have:=knows_own ς;rwa [hu op Ξ] at this
theorem dk.others {t u:Trace} {jB y':Nat->Prop} {G:χ} (h:dk t jB G) (ς:∀i,jB i->y' i)
  (hu:∀op∈u,∀a,op.act.touch?=some a->(∀b o v p,a.loc=.cell ⟨b,o,none⟩->G.aL b o=some (v,p)->p=false/\a.write=false)/\∀b,a.loc=.obj b->¬G.e9 b):dk (t++u) y' G:=by
 refine⟨λb o v p ε k a μ υ hw=>?_,λb hb k a μ υ=>?_⟩
 ·rcases nf μ with eo|⟨_,op,Ξ,_,γ⟩
  ·exact ς _ (h.aL b o v p ε k a eo υ hw)
  ·have:=((hu op Ξ a γ).1 b o v p υ ε);rcases hw with hw|hw
   ·rw[this.1] at hw;cases hw
   ·rw[this.2] at hw;cases hw
 ·rcases nf μ with eo|⟨_,op,Ξ,_,γ⟩
  ·exact ς _ (h.obj b hb k a eo υ)
  ·exact absurd hb ((hu op Ξ a γ).2 b υ)
end Go.TL
