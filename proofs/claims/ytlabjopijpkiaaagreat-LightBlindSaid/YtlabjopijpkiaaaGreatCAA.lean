import Derived.Conc.Beside
import Derived.Conc.MuSpec
import GoSem.Core.World
set_option maxHeartbeats 16000000
set_option maxRecDepth 20000
set_option linter.unusedSectionVars false
set_option linter.unusedSimpArgs false
set_option linter.unusedVariables false
namespace Go.TL
theorem a8 {α : Type _} {l : List α} {i : Nat} (h : i < l.length) : l[i]? = some l[i] := List.getElem?_eq_getElem h
theorem bX {α : Type _} {l : List α} {i : Nat} {a : α} : l[i]? = some a ↔ ∃ h : i < l.length, l[i] = a := List.getElem?_eq_some_iff
theorem cG {α : Type _} {l : List α} {i : Nat} {a : α} (e : l[i]? = some a) : a ∈ l := List.mem_of_getElem? e
theorem dO {α : Type _} {l : List α} : l.length = 0 ↔ l = [] := List.length_eq_zero_iff
theorem dI {α : Type _} {vA Ch : List α} {i : Nat} (Ζ : i < vA.length) : (vA ++ Ch)[i]? = vA[i]? := List.getElem?_append_left Ζ
theorem hp {α : Type _} {vA Ch : List α} {i : Nat} (h : vA.length <= i) : (vA ++ Ch)[i]? = Ch[i - vA.length]? := List.getElem?_append_right h
theorem ff {α : Type _} {xs : Array α} {i : Nat} (h : i < xs.size) : xs[i]? = some xs[i] := Array.getElem?_eq_getElem h
theorem R {p:Prop} (h:p:=by omega):p:=h
theorem ζ {p:Prop} (h:p:=by simp):p:=h
theorem br {p:Prop} (h:p:=by decide):p:=h
theorem b2 {α:Sort _} (a:α):∃x,a=x:=⟨a,rfl⟩
theorem aK {α:Sort _} (a:α):∃x,x=a:=⟨a,rfl⟩
def Obj.sw:Obj->Bool
 | .cells ..=>true
 | _=>false
structure Α where
 aP:Nat->Nat->Option (Value×Bool)
 row:Nat->Option (TypeId×Nat)
 obj:Nat->Option Obj
def Α.empty:Α:=⟨λ_ _=>none,λ_=>none,λ_=>none⟩
end Go.TL
namespace Go.TL
open Go.Conc
open Go.ConcM (OsLater)
structure Fits (G:Α) (w:World):Prop where
 aP:∀b o v p,G.aP b o=some (v,p)->w.cell? ⟨b,o,none⟩=some v
 row:∀b t n,G.row b=some (t,n)->∃c,w.heap[b]?=some (.cells c t (0,0))/\c.size=n
 obj:∀b x,G.obj b=some x->w.heap[b]?=some x/\Obj.sw x=false
def Α.owns (G:Α) (b o:Nat):Prop:=∃v,G.aP b o=some (v,true)
def Α.has (G:Α) (b o:Nat):Prop:=∃x,G.aP b o=some x
def Α.fg (G:Α) (b:Nat):Prop:=∃x,G.obj b=some x
structure Apart (G H:Α):Prop where
 aP:∀b o,G.owns b o->¬H.has b o
 q8:∀b o,H.owns b o->¬G.has b o
 obj:∀b,G.fg b->¬H.fg b
def Α.off (G:Α) (b:Nat):Prop:=(∀o,¬G.has b o)/\¬G.fg b
structure fI (own:Nat->Nat->Prop) (xC:Nat->Prop) (w w':World):Prop where
 size:w.heap.size<=w'.heap.size
 cells:∀b c t ef,w.heap[b]?=some (.cells c t ef)->∃c',w'.heap[b]?=some (.cells c' t ef)/\c'.size=c.size/\∀o,¬own b o->c'[o]?=c[o]?
 nz:∀b x,w.heap[b]?=some x->Obj.sw x=false->¬xC b->w'.heap[b]?=some x
 os:OsLater w.os w'.os
 output:w'.output=w.output
 tape:w'.tape=w.tape
theorem fJ {w:World} {b:Nat} {x:Obj} (h:w.heap[b]?=some x):b<w.heap.size:=by
 rcases Nat.lt_or_ge b w.heap.size with c9|c9
 ·exact c9
 ·rw[Array.getElem?_eq_none c9] at h;cases h
theorem q9 {w:World} {b o:Nat} {v:Value} (h:w.cell? ⟨b,o,none⟩=some v):∃c t ef,w.heap[b]?=some (.cells c t ef)/\c[o]?=some v:=by
 unfold World.cell? at h;cases hb:w.heap[b]? with
 | none=>simp[hb] at h
 | some x=>
  cases x<;>simp[hb] at h;exact⟨_,_,_,rfl,h⟩
theorem od {w:World} {b o:Nat} {v:Value} {c:Array Value} {t:TypeId} {ef:Nat×Nat} (h:w.heap[b]?=some (.cells c t ef)) (hv:c[o]?=some v):w.cell? ⟨b,o,none⟩=some v:=by
 simp[World.cell?,h,hv]
theorem fI.refl (own:Nat->Nat->Prop) (xC:Nat->Prop) (w:World):fI own xC w w:=
 ⟨Nat.le_refl _,λb c t ef h=>⟨c,h,rfl,λ_ _=>rfl⟩,λ_ _ h _ _=>h,OsLater.refl _,rfl,rfl⟩
theorem Fits.keeps {own:Nat->Nat->Prop} {xC:Nat->Prop} {w w':World} {H:Α} (Τ:Fits H w) (χ:fI own xC w w') (J:∀b o,own b o->¬H.has b o) (U:∀b,xC b->¬H.fg b):Fits H w':=by
 refine⟨λb o v p h=>?_,λb t n h=>?_,λb x h=>?_⟩
 ·obtain⟨c,t,ef,hb,hv⟩:=q9 (Τ.aP b o v p h);obtain⟨c',dV,_,ε⟩:=χ.cells b c t ef hb;exact od dV (by rw[ε o λx=>J b o x ⟨_,h⟩];exact hv)
 ·obtain⟨c,hb,ν⟩:=Τ.row b t n h;obtain⟨c',dV,jD,_⟩:=χ.cells b c t _ hb;exact⟨c',dV,by rw[jD,ν]⟩
 ·obtain⟨hb,γ⟩:=Τ.obj b x h;exact⟨χ.nz b x hb γ λy=>U b y ⟨_,h⟩,γ⟩
theorem Fits.at {H:Α} {w:World} (h:Fits H w) (d:Nat):Fits H (w.at d):=⟨h.aP,h.row,h.obj⟩
structure dy (t:Trace) (j0:Nat->Prop) (G:Α):Prop where
 aP:∀b o v p,G.aP b o=some (v,p)->∀i a,touchAt t i=some a->a.loc=.cell ⟨b,o,none⟩->(p=true\/a.write=true)->j0 i
 obj:∀b,G.fg b->∀i a,touchAt t i=some a->a.loc=.obj b->j0 i
theorem dy.mono {t:Trace} {j0 zk:Nat->Prop} {G:Α} (h:dy t j0 G) (χ:∀i,j0 i->zk i):dy t zk G:=
 ⟨λb o v p ε i a κ ξ hw=>χ i (h.aP b o v p ε i a κ ξ hw),λb hb i a κ ξ=>χ i (h.obj b hb i a κ ξ)⟩
def oe (l:Loc) (b:Nat):Prop:=
 match l with
 | .cell a=>a.block=b
 | .obj r=>r=b
 | _=>False
def hG (G:Α) (n jE:Nat) (e:Event):Prop:=
 match e.loc with
 | .cell a=>(n<=a.block/\a.block<jE)\/(a.spot=none/\(if e.write then G.owns a.block a.off else G.has a.block a.off))
 | .obj r=>e.sync=false/\((n<=r/\r<jE)\/G.fg r)
 | .output=>True
 | .goroutines=>False
 | .mark m=>m=.noRoom
theorem nA {t u:Trace} {i:Nat} {a:Touch} (h:touchAt (t++u) i=some a):touchAt t i=some a\/(t.size<=i/\∃op∈u,(t++u)[i]?=some op/\op.act.touch?=some a):=by
 obtain⟨x,γ,xD⟩:=touch_of h;rcases getElem?_append_cases γ with⟨_,h4⟩|⟨hle,RZ⟩
 ·exact .inl (by rw[touchAt_of h4];exact xD)
 ·exact .inr ⟨hle,x,RZ,γ,xD⟩
theorem dy.own {t u:Trace} {i:Nat} {G:Α} (h:dy t (Knows t i) G) (hu:∀op∈u,op.g=i):dy (t++u) (Knows (t++u) i) G:=by
 refine⟨λb o v p ε k a κ ξ hw=>?_,λb hb k a κ ξ=>?_⟩
 ·rcases nA κ with eo|⟨_,op,Μ,χ,_⟩
  ·exact(h.aP b o v p ε k a eo ξ hw).app u
  ·have:=knows_own χ;rwa [hu op Μ] at this
 ·rcases nA κ with eo|⟨_,op,Μ,χ,_⟩
  ·exact(h.obj b hb k a eo ξ).app u
  ·have:=knows_own χ;rwa [hu op Μ] at this
theorem dy.others {t u:Trace} {j0 zk:Nat->Prop} {G:Α} (h:dy t j0 G) (χ:∀i,j0 i->zk i)
  (hu:∀op∈u,∀a,op.act.touch?=some a->(∀b o v p,a.loc=.cell ⟨b,o,none⟩->G.aP b o=some (v,p)->p=false/\a.write=false)/\∀b,a.loc=.obj b->¬G.fg b):dy (t++u) zk G:=by
 refine⟨λb o v p ε k a κ ξ hw=>?_,λb hb k a κ ξ=>?_⟩
 ·rcases nA κ with eo|⟨_,op,Μ,_,γ⟩
  ·exact χ _ (h.aP b o v p ε k a eo ξ hw)
  ·have:=((hu op Μ a γ).1 b o v p ξ ε);rcases hw with hw|hw
   ·rw[this.1] at hw;cases hw
   ·rw[this.2] at hw;cases hw
 ·rcases nA κ with eo|⟨_,op,Μ,_,γ⟩
  ·exact χ _ (h.obj b hb k a eo ξ)
  ·exact absurd hb ((hu op Μ a γ).2 b ξ)
end Go.TL
