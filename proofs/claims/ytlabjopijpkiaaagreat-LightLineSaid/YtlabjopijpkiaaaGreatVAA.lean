import Derived.Conc.Beside
import Derived.Conc.MuSpec
import GoSem.Core.World
set_option maxHeartbeats 16000000
set_option maxRecDepth 20000
set_option linter.unusedSectionVars false
set_option linter.unusedSimpArgs false
set_option linter.unusedVariables false
namespace Go.TL
theorem bg {α : Type _} {l : List α} {i : Nat} (h : i < l.length) : l[i]? = some l[i] := List.getElem?_eq_getElem h
theorem cf {α : Type _} {l : List α} {i : Nat} {a : α} : l[i]? = some a ↔ ∃ h : i < l.length, l[i] = a := List.getElem?_eq_some_iff
theorem cE {α : Type _} {l : List α} {i : Nat} {a : α} (e : l[i]? = some a) : a ∈ l := List.mem_of_getElem? e
theorem dG {α : Type _} {l : List α} : l.length = 0 ↔ l = [] := List.length_eq_zero_iff
theorem ev {α : Type _} {uW BE : List α} {i : Nat} (Ζ : i < uW.length) : (uW ++ BE)[i]? = uW[i]? := List.getElem?_append_left Ζ
theorem h6 {α : Type _} {uW BE : List α} {i : Nat} (h : uW.length <= i) : (uW ++ BE)[i]? = BE[i - uW.length]? := List.getElem?_append_right h
theorem fq {α : Type _} {xs : Array α} {i : Nat} (h : i < xs.size) : xs[i]? = some xs[i] := Array.getElem?_eq_getElem h
theorem R {p:Prop} (h:p:=by omega):p:=h
theorem η {p:Prop} (h:p:=by simp):p:=h
theorem bu {p:Prop} (h:p:=by decide):p:=h
theorem bZ {α:Sort _} (a:α):∃x,a=x:=⟨a,rfl⟩
theorem aK {α:Sort _} (a:α):∃x,x=a:=⟨a,rfl⟩
def Obj.rW:Obj->Bool
 | .cells ..=>true
 | _=>false
structure χ where
 aO:Nat->Nat->Option (Value×Bool)
 row:Nat->Option (TypeId×Nat)
 obj:Nat->Option Obj
def χ.empty:χ:=⟨λ_ _=>none,λ_=>none,λ_=>none⟩
end Go.TL
namespace Go.TL
open Go.Conc
open Go.ConcM (OsLater)
structure Fits (G:χ) (w:World):Prop where
 aO:∀b o v p,G.aO b o=some (v,p)->w.cell? ⟨b,o,none⟩=some v
 row:∀b t n,G.row b=some (t,n)->∃c,w.heap[b]?=some (.cells c t (0,0))/\c.size=n
 obj:∀b x,G.obj b=some x->w.heap[b]?=some x/\Obj.rW x=false
def χ.owns (G:χ) (b o:Nat):Prop:=∃v,G.aO b o=some (v,true)
def χ.has (G:χ) (b o:Nat):Prop:=∃x,G.aO b o=some x
def χ.e' (G:χ) (b:Nat):Prop:=∃x,G.obj b=some x
structure Apart (G H:χ):Prop where
 aO:∀b o,G.owns b o->¬H.has b o
 qH:∀b o,H.owns b o->¬G.has b o
 obj:∀b,G.e' b->¬H.e' b
def χ.off (G:χ) (b:Nat):Prop:=(∀o,¬G.has b o)/\¬G.e' b
structure fH (own:Nat->Nat->Prop) (wV:Nat->Prop) (w w':World):Prop where
 size:w.heap.size<=w'.heap.size
 cells:∀b c t d',w.heap[b]?=some (.cells c t d')->∃c',w'.heap[b]?=some (.cells c' t d')/\c'.size=c.size/\∀o,¬own b o->c'[o]?=c[o]?
 nf:∀b x,w.heap[b]?=some x->Obj.rW x=false->¬wV b->w'.heap[b]?=some x
 os:OsLater w.os w'.os
 output:w'.output=w.output
 tape:w'.tape=w.tape
theorem fI {w:World} {b:Nat} {x:Obj} (h:w.heap[b]?=some x):b<w.heap.size:=by
 rcases Nat.lt_or_ge b w.heap.size with dg|dg
 ·exact dg
 ·rw[Array.getElem?_eq_none dg] at h;cases h
theorem qI {w:World} {b o:Nat} {v:Value} (h:w.cell? ⟨b,o,none⟩=some v):∃c t d',w.heap[b]?=some (.cells c t d')/\c[o]?=some v:=by
 unfold World.cell? at h;cases hb:w.heap[b]? with
 | none=>simp[hb] at h
 | some x=>
  cases x<;>simp[hb] at h;exact⟨_,_,_,rfl,h⟩
theorem nV {w:World} {b o:Nat} {v:Value} {c:Array Value} {t:TypeId} {d':Nat×Nat} (h:w.heap[b]?=some (.cells c t d')) (hv:c[o]?=some v):w.cell? ⟨b,o,none⟩=some v:=by
 simp[World.cell?,h,hv]
theorem fH.refl (own:Nat->Nat->Prop) (wV:Nat->Prop) (w:World):fH own wV w w:=
 ⟨Nat.le_refl _,λb c t d' h=>⟨c,h,rfl,λ_ _=>rfl⟩,λ_ _ h _ _=>h,OsLater.refl _,rfl,rfl⟩
theorem Fits.keeps {own:Nat->Nat->Prop} {wV:Nat->Prop} {w w':World} {H:χ} (Υ:Fits H w) (ς:fH own wV w w') (J:∀b o,own b o->¬H.has b o) (U:∀b,wV b->¬H.e' b):Fits H w':=by
 refine⟨λb o v p h=>?_,λb t n h=>?_,λb x h=>?_⟩
 ·obtain⟨c,t,d',hb,hv⟩:=qI (Υ.aO b o v p h);obtain⟨c',dT,_,δ⟩:=ς.cells b c t d' hb;exact nV dT (by rw[δ o λx=>J b o x ⟨_,h⟩];exact hv)
 ·obtain⟨c,hb,ν⟩:=Υ.row b t n h;obtain⟨c',dT,jo,_⟩:=ς.cells b c t _ hb;exact⟨c',dT,by rw[jo,ν]⟩
 ·obtain⟨hb,γ⟩:=Υ.obj b x h;exact⟨ς.nf b x hb γ λy=>U b y ⟨_,h⟩,γ⟩
theorem Fits.at {H:χ} {w:World} (h:Fits H w) (d:Nat):Fits H (w.at d):=⟨h.aO,h.row,h.obj⟩
structure dv (t:Trace) (jO:Nat->Prop) (G:χ):Prop where
 aO:∀b o v p,G.aO b o=some (v,p)->∀i a,touchAt t i=some a->a.loc=.cell ⟨b,o,none⟩->(p=true\/a.write=true)->jO i
 obj:∀b,G.e' b->∀i a,touchAt t i=some a->a.loc=.obj b->jO i
theorem dv.mono {t:Trace} {jO yQ:Nat->Prop} {G:χ} (h:dv t jO G) (ς:∀i,jO i->yQ i):dv t yQ G:=
 ⟨λb o v p δ i a κ ο hw=>ς i (h.aO b o v p δ i a κ ο hw),λb hb i a κ ο=>ς i (h.obj b hb i a κ ο)⟩
def nW (l:Loc) (b:Nat):Prop:=
 match l with
 | .cell a=>a.block=b
 | .obj r=>r=b
 | _=>False
def hq (G:χ) (n jq:Nat) (e:Event):Prop:=
 match e.loc with
 | .cell a=>(n<=a.block/\a.block<jq)\/(a.spot=none/\(if e.write then G.owns a.block a.off else G.has a.block a.off))
 | .obj r=>e.sync=false/\((n<=r/\r<jq)\/G.e' r)
 | .output=>True
 | .goroutines=>False
 | .mark m=>m=.noRoom
theorem ng {t u:Trace} {i:Nat} {a:Touch} (h:touchAt (t++u) i=some a):touchAt t i=some a\/(t.size<=i/\∃op∈u,(t++u)[i]?=some op/\op.act.touch?=some a):=by
 obtain⟨x,γ,wW⟩:=touch_of h;rcases getElem?_append_cases γ with⟨_,hR⟩|⟨hle,Ro⟩
 ·exact .inl (by rw[touchAt_of hR];exact wW)
 ·exact .inr ⟨hle,x,Ro,γ,wW⟩
theorem dv.own {t u:Trace} {i:Nat} {G:χ} (h:dv t (Knows t i) G) (hu:∀op∈u,op.g=i):dv (t++u) (Knows (t++u) i) G:=by
 refine⟨λb o v p δ k a κ ο hw=>?_,λb hb k a κ ο=>?_⟩
 ·rcases ng κ with ee|⟨_,op,Μ,ς,_⟩
  ·exact(h.aO b o v p δ k a ee ο hw).app u
  ·have:=knows_own ς;rwa [hu op Μ] at this
 ·rcases ng κ with ee|⟨_,op,Μ,ς,_⟩
  ·exact(h.obj b hb k a ee ο).app u
  ·have:=knows_own ς;rwa [hu op Μ] at this
theorem dv.others {t u:Trace} {jO yQ:Nat->Prop} {G:χ} (h:dv t jO G) (ς:∀i,jO i->yQ i)
  (hu:∀op∈u,∀a,op.act.touch?=some a->(∀b o v p,a.loc=.cell ⟨b,o,none⟩->G.aO b o=some (v,p)->p=false/\a.write=false)/\∀b,a.loc=.obj b->¬G.e' b):dv (t++u) yQ G:=by
 refine⟨λb o v p δ k a κ ο hw=>?_,λb hb k a κ ο=>?_⟩
 ·rcases ng κ with ee|⟨_,op,Μ,_,γ⟩
  ·exact ς _ (h.aO b o v p δ k a ee ο hw)
  ·have:=((hu op Μ a γ).1 b o v p ο δ);rcases hw with hw|hw
   ·rw[this.1] at hw;cases hw
   ·rw[this.2] at hw;cases hw
 ·rcases ng κ with ee|⟨_,op,Μ,_,γ⟩
  ·exact ς _ (h.obj b hb k a ee ο)
  ·exact absurd hb ((hu op Μ a γ).2 b ο)
end Go.TL
