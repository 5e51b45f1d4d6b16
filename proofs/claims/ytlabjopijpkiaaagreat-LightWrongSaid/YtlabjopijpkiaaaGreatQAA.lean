import Derived.Conc.Beside
import Derived.Conc.MuSpec
import GoSem.Core.World
set_option maxHeartbeats 16000000
set_option maxRecDepth 20000
set_option linter.unusedSectionVars false
set_option linter.unusedSimpArgs false
set_option linter.unusedVariables false
namespace Go.TL
theorem a2 {α : Type _} {l : List α} {i : Nat} (h : i < l.length) : l[i]? = some l[i] := List.getElem?_eq_getElem h
theorem b7 {α : Type _} {l : List α} {i : Nat} {a : α} : l[i]? = some a ↔ ∃ h : i < l.length, l[i] = a := List.getElem?_eq_some_iff
theorem cv {α : Type _} {l : List α} {i : Nat} {a : α} (e : l[i]? = some a) : a ∈ l := List.mem_of_getElem? e
theorem dp {α : Type _} {l : List α} : l.length = 0 ↔ l = [] := List.length_eq_zero_iff
theorem ea {α : Type _} {l₁ BU : List α} {i : Nat} (Ι : i < l₁.length) : (l₁ ++ BU)[i]? = l₁[i]? := List.getElem?_append_left Ι
theorem hE {α : Type _} {l₁ BU : List α} {i : Nat} (h : l₁.length <= i) : (l₁ ++ BU)[i]? = BU[i - l₁.length]? := List.getElem?_append_right h
theorem e9 {α : Type _} {xs : Array α} {i : Nat} (h : i < xs.size) : xs[i]? = some xs[i] := Array.getElem?_eq_getElem h
def Obj.rS:Obj->Bool
 | .cells ..=>true
 | _=>false
structure ψ where
 aG:Nat->Nat->Option (Value×Bool)
 row:Nat->Option (TypeId×Nat)
 obj:Nat->Option Obj
def ψ.empty:ψ:=⟨λ_ _=>none,λ_=>none,λ_=>none⟩
end Go.TL
namespace Go.TL
open Go.Conc
open Go.ConcM (OsLater)
structure Fits (G:ψ) (w:World):Prop where
 aG:∀b o v p,G.aG b o=some (v,p)->w.cell? ⟨b,o,none⟩=some v
 row:∀b t n,G.row b=some (t,n)->∃c,w.heap[b]?=some (.cells c t (0,0))/\c.size=n
 obj:∀b x,G.obj b=some x->w.heap[b]?=some x/\Obj.rS x=false
def ψ.owns (G:ψ) (b o:Nat):Prop:=∃v,G.aG b o=some (v,true)
def ψ.has (G:ψ) (b o:Nat):Prop:=∃x,G.aG b o=some x
def ψ.e0 (G:ψ) (b:Nat):Prop:=∃x,G.obj b=some x
structure Apart (G H:ψ):Prop where
 aG:∀b o,G.owns b o->¬H.has b o
 qw:∀b o,H.owns b o->¬G.has b o
 obj:∀b,G.e0 b->¬H.e0 b
def ψ.off (G:ψ) (b:Nat):Prop:=(∀o,¬G.has b o)/\¬G.e0 b
structure ft (own:Nat->Nat->Prop) (xi:Nat->Prop) (w w':World):Prop where
 size:w.heap.size<=w'.heap.size
 cells:∀b c t dR,w.heap[b]?=some (.cells c t dR)->∃c',w'.heap[b]?=some (.cells c' t dR)/\c'.size=c.size/\∀o,¬own b o->c'[o]?=c[o]?
 mV:∀b x,w.heap[b]?=some x->Obj.rS x=false->¬xi b->w'.heap[b]?=some x
 os:OsLater w.os w'.os
 output:w'.output=w.output
 tape:w'.tape=w.tape
theorem fu {w:World} {b:Nat} {x:Obj} (h:w.heap[b]?=some x):b<w.heap.size:=by
 rcases Nat.lt_or_ge b w.heap.size with cW|cW
 ·exact cW
 ·rw[Array.getElem?_eq_none cW] at h;cases h
theorem qx {w:World} {b o:Nat} {v:Value} (h:w.cell? ⟨b,o,none⟩=some v):∃c t dR,w.heap[b]?=some (.cells c t dR)/\c[o]?=some v:=by
 unfold World.cell? at h;cases hb:w.heap[b]? with
 | none=>simp[hb] at h
 | some x=>
  cases x<;>simp[hb] at h;exact⟨_,_,_,rfl,h⟩
theorem nG {w:World} {b o:Nat} {v:Value} {c:Array Value} {t:TypeId} {dR:Nat×Nat} (h:w.heap[b]?=some (.cells c t dR)) (hv:c[o]?=some v):w.cell? ⟨b,o,none⟩=some v:=by
 simp[World.cell?,h,hv]
theorem ft.refl (own:Nat->Nat->Prop) (xi:Nat->Prop) (w:World):ft own xi w w:=
 ⟨Nat.le_refl _,λb c t dR h=>⟨c,h,rfl,λ_ _=>rfl⟩,λ_ _ h _ _=>h,OsLater.refl _,rfl,rfl⟩
theorem Fits.keeps {own:Nat->Nat->Prop} {xi:Nat->Prop} {w w':World} {H:ψ} (Τ:Fits H w) (χ:ft own xi w w') (J:∀b o,own b o->¬H.has b o) (γ:∀b,xi b->¬H.e0 b):Fits H w':=by
 refine⟨λb o v p h=>?_,λb t n h=>?_,λb x h=>?_⟩
 ·obtain⟨c,t,dR,hb,hv⟩:=qx (Τ.aG b o v p h);obtain⟨c',dG,_,ζ⟩:=χ.cells b c t dR hb;exact nG dG (by rw[ζ o λx=>J b o x ⟨_,h⟩];exact hv)
 ·obtain⟨c,hb,ο⟩:=Τ.row b t n h;obtain⟨c',dG,iS,_⟩:=χ.cells b c t _ hb;exact⟨c',dG,by rw[iS,ο]⟩
 ·obtain⟨hb,U⟩:=Τ.obj b x h;exact⟨χ.mV b x hb U λy=>γ b y ⟨_,h⟩,U⟩
theorem Fits.at {H:ψ} {w:World} (h:Fits H w) (d:Nat):Fits H (w.at d):=⟨h.aG,h.row,h.obj⟩
structure dm (t:Trace) (jr:Nat->Prop) (G:ψ):Prop where
 aG:∀b o v p,G.aG b o=some (v,p)->∀i a,touchAt t i=some a->a.loc=.cell ⟨b,o,none⟩->(p=true\/a.write=true)->jr i
 obj:∀b,G.e0 b->∀i a,touchAt t i=some a->a.loc=.obj b->jr i
theorem dm.mono {t:Trace} {jr y3:Nat->Prop} {G:ψ} (h:dm t jr G) (χ:∀i,jr i->y3 i):dm t y3 G:=
 ⟨λb o v p ζ i a ν Α hw=>χ i (h.aG b o v p ζ i a ν Α hw),λb hb i a ν Α=>χ i (h.obj b hb i a ν Α)⟩
def nH (l:Loc) (b:Nat):Prop:=
 match l with
 | .cell a=>a.block=b
 | .obj r=>r=b
 | _=>False
def hk (G:ψ) (n iT:Nat) (e:Event):Prop:=
 match e.loc with
 | .cell a=>(n<=a.block/\a.block<iT)\/(a.spot=none/\(if e.write then G.owns a.block a.off else G.has a.block a.off))
 | .obj r=>e.sync=false/\((n<=r/\r<iT)\/G.e0 r)
 | .output=>True
 | .goroutines=>False
 | .mark m=>m=.noRoom
theorem mW {t u:Trace} {i:Nat} {a:Touch} (h:touchAt (t++u) i=some a):touchAt t i=some a\/(t.size<=i/\∃op∈u,(t++u)[i]?=some op/\op.act.touch?=some a):=by
 obtain⟨x,U,xj⟩:=touch_of h;rcases getElem?_append_cases U with⟨_,hF⟩|⟨hle,RG⟩
 ·exact .inl (by rw[touchAt_of hF];exact xj)
 ·exact .inr ⟨hle,x,RG,U,xj⟩
theorem dm.own {t u:Trace} {i:Nat} {G:ψ} (h:dm t (Knows t i) G) (hu:∀op∈u,op.g=i):dm (t++u) (Knows (t++u) i) G:=by
 refine⟨λb o v p ζ k a ν Α hw=>?_,λb hb k a ν Α=>?_⟩
 ·rcases mW ν with eh|⟨_,op,Ν,χ,_⟩
  ·exact(h.aG b o v p ζ k a eh Α hw).app u
  ·have:=knows_own χ;rwa [hu op Ν] at this
 ·rcases mW ν with eh|⟨_,op,Ν,χ,_⟩
  ·exact(h.obj b hb k a eh Α).app u
  ·have:=knows_own χ;rwa [hu op Ν] at this
theorem dm.others {t u:Trace} {jr y3:Nat->Prop} {G:ψ} (h:dm t jr G) (χ:∀i,jr i->y3 i)
  (hu:∀op∈u,∀a,op.act.touch?=some a->(∀b o v p,a.loc=.cell ⟨b,o,none⟩->G.aG b o=some (v,p)->p=false/\a.write=false)/\∀b,a.loc=.obj b->¬G.e0 b):dm (t++u) y3 G:=by
 refine⟨λb o v p ζ k a ν Α hw=>?_,λb hb k a ν Α=>?_⟩
 ·rcases mW ν with eh|⟨_,op,Ν,_,U⟩
  ·exact χ _ (h.aG b o v p ζ k a eh Α hw)
  ·have:=((hu op Ν a U).1 b o v p Α ζ);rcases hw with hw|hw
   ·rw[this.1] at hw;cases hw
   ·rw[this.2] at hw;cases hw
 ·rcases mW ν with eh|⟨_,op,Ν,_,U⟩
  ·exact χ _ (h.obj b hb k a eh Α)
  ·exact absurd hb ((hu op Ν a U).2 b Α)
end Go.TL
