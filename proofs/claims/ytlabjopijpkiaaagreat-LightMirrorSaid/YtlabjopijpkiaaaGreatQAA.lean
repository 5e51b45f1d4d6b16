import Derived.Conc.Beside
import Derived.Conc.MuSpec
import GoSem.Core.World
set_option maxHeartbeats 16000000
set_option maxRecDepth 20000
set_option linter.unusedSectionVars false
set_option linter.unusedSimpArgs false
set_option linter.unusedVariables false
namespace Go.TL
theorem aX {α : Type _} {l : List α} {i : Nat} (h : i < l.length) : l[i]? = some l[i] := List.getElem?_eq_getElem h
theorem bU {α : Type _} {l : List α} {i : Nat} {a : α} : l[i]? = some a ↔ ∃ h : i < l.length, l[i] = a := List.getElem?_eq_some_iff
theorem cf {α : Type _} {l : List α} {i : Nat} {a : α} (e : l[i]? = some a) : a ∈ l := List.mem_of_getElem? e
theorem dk {α : Type _} {l : List α} : l.length = 0 ↔ l = [] := List.length_eq_zero_iff
theorem dW {α : Type _} {sM zy : List α} {i : Nat} (Ι : i < sM.length) : (sM ++ zy)[i]? = sM[i]? := List.getElem?_append_left Ι
theorem ha {α : Type _} {sM zy : List α} {i : Nat} (h : sM.length <= i) : (sM ++ zy)[i]? = zy[i - sM.length]? := List.getElem?_append_right h
theorem eM {α : Type _} {xs : Array α} {i : Nat} (h : i < xs.size) : xs[i]? = some xs[i] := Array.getElem?_eq_getElem h
def Obj.qf:Obj->Bool
 | .cells ..=>true
 | _=>false
structure υ where
 av:Nat->Nat->Option (Value×Bool)
 row:Nat->Option (TypeId×Nat)
 obj:Nat->Option Obj
def υ.empty:υ:=⟨λ_ _=>none,λ_=>none,λ_=>none⟩
end Go.TL
namespace Go.TL
open Go.Conc
open Go.ConcM (OsLater)
structure Fits (G:υ) (w:World):Prop where
 av:∀b o v p,G.av b o=some (v,p)->w.cell? ⟨b,o,none⟩=some v
 row:∀b t n,G.row b=some (t,n)->∃c,w.heap[b]?=some (.cells c t (0,0))/\c.size=n
 obj:∀b x,G.obj b=some x->w.heap[b]?=some x/\Obj.qf x=false
def υ.owns (G:υ) (b o:Nat):Prop:=∃v,G.av b o=some (v,true)
def υ.has (G:υ) (b o:Nat):Prop:=∃x,G.av b o=some x
def υ.eE (G:υ) (b:Nat):Prop:=∃x,G.obj b=some x
structure Apart (G H:υ):Prop where
 av:∀b o,G.owns b o->¬H.has b o
 oZ:∀b o,H.owns b o->¬G.has b o
 obj:∀b,G.eE b->¬H.eE b
def υ.off (G:υ) (b:Nat):Prop:=(∀o,¬G.has b o)/\¬G.eE b
structure e0 (own:Nat->Nat->Prop) (uH:Nat->Prop) (w w':World):Prop where
 size:w.heap.size<=w'.heap.size
 cells:∀b c t dz,w.heap[b]?=some (.cells c t dz)->∃c',w'.heap[b]?=some (.cells c' t dz)/\c'.size=c.size/\∀o,¬own b o->c'[o]?=c[o]?
 lO:∀b x,w.heap[b]?=some x->Obj.qf x=false->¬uH b->w'.heap[b]?=some x
 os:OsLater w.os w'.os
 output:w'.output=w.output
 tape:w'.tape=w.tape
theorem e1 {w:World} {b:Nat} {x:Obj} (h:w.heap[b]?=some x):b<w.heap.size:=by
 rcases Nat.lt_or_ge b w.heap.size with c0|c0
 ·exact c0
 ·rw[Array.getElem?_eq_none c0] at h;cases h
theorem o0 {w:World} {b o:Nat} {v:Value} (h:w.cell? ⟨b,o,none⟩=some v):∃c t dz,w.heap[b]?=some (.cells c t dz)/\c[o]?=some v:=by
 unfold World.cell? at h;cases hb:w.heap[b]? with
 | none=>simp[hb] at h
 | some x=>
  cases x<;>simp[hb] at h;exact⟨_,_,_,rfl,h⟩
theorem mm {w:World} {b o:Nat} {v:Value} {c:Array Value} {t:TypeId} {dz:Nat×Nat} (h:w.heap[b]?=some (.cells c t dz)) (hv:c[o]?=some v):w.cell? ⟨b,o,none⟩=some v:=by
 simp[World.cell?,h,hv]
theorem e0.refl (own:Nat->Nat->Prop) (uH:Nat->Prop) (w:World):e0 own uH w w:=
 ⟨Nat.le_refl _,λb c t dz h=>⟨c,h,rfl,λ_ _=>rfl⟩,λ_ _ h _ _=>h,OsLater.refl _,rfl,rfl⟩
theorem Fits.keeps {own:Nat->Nat->Prop} {uH:Nat->Prop} {w w':World} {H:υ} (ab:Fits H w) (Α:e0 own uH w w') (J:∀b o,own b o->¬H.has b o) (R:∀b,uH b->¬H.eE b):Fits H w':=by
 refine⟨λb o v p h=>?_,λb t n h=>?_,λb x h=>?_⟩
 ·obtain⟨c,t,dz,hb,hv⟩:=o0 (ab.av b o v p h);obtain⟨c',dp,_,η⟩:=Α.cells b c t dz hb;exact mm dp (by rw[η o λx=>J b o x ⟨_,h⟩];exact hv)
 ·obtain⟨c,hb,ν⟩:=ab.row b t n h;obtain⟨c',dp,hY,_⟩:=Α.cells b c t _ hb;exact⟨c',dp,by rw[hY,ν]⟩
 ·obtain⟨hb,U⟩:=ab.obj b x h;exact⟨Α.lO b x hb U λy=>R b y ⟨_,h⟩,U⟩
theorem Fits.at {H:υ} {w:World} (h:Fits H w) (d:Nat):Fits H (w.at d):=⟨h.av,h.row,h.obj⟩
structure c5 (t:Trace) (iq:Nat->Prop) (G:υ):Prop where
 av:∀b o v p,G.av b o=some (v,p)->∀i a,touchAt t i=some a->a.loc=.cell ⟨b,o,none⟩->(p=true\/a.write=true)->iq i
 obj:∀b,G.eE b->∀i a,touchAt t i=some a->a.loc=.obj b->iq i
theorem c5.mono {t:Trace} {iq wO:Nat->Prop} {G:υ} (h:c5 t iq G) (Α:∀i,iq i->wO i):c5 t wO G:=
 ⟨λb o v p η i a κ Β hw=>Α i (h.av b o v p η i a κ Β hw),λb hb i a κ Β=>Α i (h.obj b hb i a κ Β)⟩
def mo (l:Loc) (b:Nat):Prop:=
 match l with
 | .cell a=>a.block=b
 | .obj r=>r=b
 | _=>False
def gv (G:υ) (n hZ:Nat) (e:Event):Prop:=
 match e.loc with
 | .cell a=>(n<=a.block/\a.block<hZ)\/(a.spot=none/\(if e.write then G.owns a.block a.off else G.has a.block a.off))
 | .obj r=>e.sync=false/\((n<=r/\r<hZ)\/G.eE r)
 | .output=>True
 | .goroutines=>False
 | .mark m=>m=.noRoom
theorem lP {t u:Trace} {i:Nat} {a:Touch} (h:touchAt (t++u) i=some a):touchAt t i=some a\/(t.size<=i/\∃op∈u,(t++u)[i]?=some op/\op.act.touch?=some a):=by
 obtain⟨x,U,uI⟩:=touch_of h;rcases getElem?_append_cases U with⟨_,gN⟩|⟨hle,N7⟩
 ·exact .inl (by rw[touchAt_of gN];exact uI)
 ·exact .inr ⟨hle,x,N7,U,uI⟩
theorem c5.own {t u:Trace} {i:Nat} {G:υ} (h:c5 t (Knows t i) G) (hu:∀op∈u,op.g=i):c5 (t++u) (Knows (t++u) i) G:=by
 refine⟨λb o v p η k a κ Β hw=>?_,λb hb k a κ Β=>?_⟩
 ·rcases lP κ with eo|⟨_,op,Θ,Α,_⟩
  ·exact(h.av b o v p η k a eo Β hw).app u
  ·have:=knows_own Α;rwa [hu op Θ] at this
 ·rcases lP κ with eo|⟨_,op,Θ,Α,_⟩
  ·exact(h.obj b hb k a eo Β).app u
  ·have:=knows_own Α;rwa [hu op Θ] at this
theorem c5.others {t u:Trace} {iq wO:Nat->Prop} {G:υ} (h:c5 t iq G) (Α:∀i,iq i->wO i)
  (hu:∀op∈u,∀a,op.act.touch?=some a->(∀b o v p,a.loc=.cell ⟨b,o,none⟩->G.av b o=some (v,p)->p=false/\a.write=false)/\∀b,a.loc=.obj b->¬G.eE b):c5 (t++u) wO G:=by
 refine⟨λb o v p η k a κ Β hw=>?_,λb hb k a κ Β=>?_⟩
 ·rcases lP κ with eo|⟨_,op,Θ,_,U⟩
  ·exact Α _ (h.av b o v p η k a eo Β hw)
  ·have:=((hu op Θ a U).1 b o v p Β η);rcases hw with hw|hw
   ·rw[this.1] at hw;cases hw
   ·rw[this.2] at hw;cases hw
 ·rcases lP κ with eo|⟨_,op,Θ,_,U⟩
  ·exact Α _ (h.obj b hb k a eo Β)
  ·exact absurd hb ((hu op Θ a U).2 b Β)
end Go.TL
