import Derived.Conc.Beside
import Derived.Conc.MuSpec
import GoSem.Core.World
set_option maxHeartbeats 16000000
set_option maxRecDepth 20000
set_option linter.unusedSectionVars false
set_option linter.unusedSimpArgs false
set_option linter.unusedVariables false
namespace Go.TL
theorem bc {α : Type _} {l : List α} {i : Nat} (h : i < l.length) : l[i]? = some l[i] := List.getElem?_eq_getElem h
theorem b3 {α : Type _} {l : List α} {i : Nat} {a : α} : l[i]? = some a ↔ ∃ h : i < l.length, l[i] = a := List.getElem?_eq_some_iff
theorem cl {α : Type _} {l : List α} {i : Nat} {a : α} (e : l[i]? = some a) : a ∈ l := List.mem_of_getElem? e
theorem dq {α : Type _} {l : List α} : l.length = 0 ↔ l = [] := List.length_eq_zero_iff
theorem dU {α : Type _} {tB Av : List α} {i : Nat} (Η : i < tB.length) : (tB ++ Av)[i]? = tB[i]? := List.getElem?_append_left Η
theorem hr {α : Type _} {tB Av : List α} {i : Nat} (h : tB.length ≤ i) : (tB ++ Av)[i]? = Av[i - tB.length]? := List.getElem?_append_right h
theorem eY {α : Type _} {xs : Array α} {i : Nat} (h : i < xs.size) : xs[i]? = some xs[i] := Array.getElem?_eq_getElem h
def Obj.qW:Obj→Bool
 | .cells ..=>true
 | _=>false
structure ψ where
 aF:Nat→Nat→Option (Value×Bool)
 row:Nat→Option (TypeId×Nat)
 obj:Nat→Option Obj
def ψ.empty:ψ:=⟨fun _ _=>none,fun _=>none,fun _=>none⟩
end Go.TL
namespace Go.TL
open Go.Conc
open Go.ConcM (OsLater)
structure Fits (G:ψ) (w:World):Prop where
 aF:∀b o v p,G.aF b o=some (v,p)→w.cell? ⟨b,o,none⟩=some v
 row:∀b t n,G.row b=some (t,n)→∃c,w.heap[b]?=some (.cells c t (0,0))∧c.size=n
 obj:∀b x,G.obj b=some x→w.heap[b]?=some x∧Obj.qW x=false
def ψ.owns (G:ψ) (b o:Nat):Prop:=∃v,G.aF b o=some (v,true)
def ψ.has (G:ψ) (b o:Nat):Prop:=∃x,G.aF b o=some x
def ψ.eQ (G:ψ) (b:Nat):Prop:=∃x,G.obj b=some x
structure Apart (G H:ψ):Prop where
 aF:∀b o,G.owns b o→¬H.has b o
 pP:∀b o,H.owns b o→¬G.has b o
 obj:∀b,G.eQ b→¬H.eQ b
def ψ.off (G:ψ) (b:Nat):Prop:=(∀o,¬G.has b o)∧¬G.eQ b
structure fe (own:Nat→Nat→Prop) (vA:Nat→Prop) (w w':World):Prop where
 size:w.heap.size≤w'.heap.size
 cells:∀b c t dC,w.heap[b]?=some (.cells c t dC)→∃c',w'.heap[b]?=some (.cells c' t dC)∧c'.size=c.size∧∀o,¬own b o→c'[o]?=c[o]?
 me:∀b x,w.heap[b]?=some x→Obj.qW x=false→¬vA b→w'.heap[b]?=some x
 os:OsLater w.os w'.os
 output:w'.output=w.output
 tape:w'.tape=w.tape
theorem ff {w:World} {b:Nat} {x:Obj} (h:w.heap[b]?=some x):b<w.heap.size:=by
 rcases Nat.lt_or_ge b w.heap.size with cP|cP
 ·exact cP
 ·rw[Array.getElem?_eq_none cP] at h;cases h
theorem pQ {w:World} {b o:Nat} {v:Value} (h:w.cell? ⟨b,o,none⟩=some v):∃c t dC,w.heap[b]?=some (.cells c t dC)∧c[o]?=some v:=by
 unfold World.cell? at h;cases hb:w.heap[b]? with
 | none=>simp[hb] at h
 | some x=>
  cases x<;>simp[hb] at h;exact⟨_,_,_,rfl,h⟩
theorem mX {w:World} {b o:Nat} {v:Value} {c:Array Value} {t:TypeId} {dC:Nat×Nat} (h:w.heap[b]?=some (.cells c t dC)) (hv:c[o]?=some v):w.cell? ⟨b,o,none⟩=some v:=by
 simp[World.cell?,h,hv]
theorem fe.refl (own:Nat→Nat→Prop) (vA:Nat→Prop) (w:World):fe own vA w w:=
 ⟨Nat.le_refl _,fun b c t dC h=>⟨c,h,rfl,fun _ _=>rfl⟩,fun _ _ h _ _=>h,OsLater.refl _,rfl,rfl⟩
theorem Fits.keeps {own:Nat→Nat→Prop} {vA:Nat→Prop} {w w':World} {H:ψ} (Ρ:Fits H w) (υ:fe own vA w w') (R:∀b o,own b o→¬H.has b o) (γ:∀b,vA b→¬H.eQ b):Fits H w':=by
 refine⟨fun b o v p h=>?_,fun b t n h=>?_,fun b x h=>?_⟩
 ·obtain⟨c,t,dC,hb,hv⟩:=pQ (Ρ.aF b o v p h);obtain⟨c',dv,_,η⟩:=υ.cells b c t dC hb;exact mX dv (by rw[η o fun x=>R b o x ⟨_,h⟩];exact hv)
 ·obtain⟨c,hb,ξ⟩:=Ρ.row b t n h;obtain⟨c',dv,im,_⟩:=υ.cells b c t _ hb;exact⟨c',dv,by rw[im,ξ]⟩
 ·obtain⟨hb,δ⟩:=Ρ.obj b x h;exact⟨υ.me b x hb δ fun y=>γ b y ⟨_,h⟩,δ⟩
theorem Fits.at {H:ψ} {w:World} (h:Fits H w) (d:Nat):Fits H (w.at d):=⟨h.aF,h.row,h.obj⟩
structure c8 (t:Trace) (iR:Nat→Prop) (G:ψ):Prop where
 aF:∀b o v p,G.aF b o=some (v,p)→∀i a,touchAt t i=some a→a.loc=.cell ⟨b,o,none⟩→(p=true∨a.write=true)→iR i
 obj:∀b,G.eQ b→∀i a,touchAt t i=some a→a.loc=.obj b→iR i
theorem c8.mono {t:Trace} {iR xN:Nat→Prop} {G:ψ} (h:c8 t iR G) (υ:∀i,iR i→xN i):c8 t xN G:=
 ⟨fun b o v p η i a μ ω hw=>υ i (h.aF b o v p η i a μ ω hw),fun b hb i a μ ω=>υ i (h.obj b hb i a μ ω)⟩
def mY (l:Loc) (b:Nat):Prop:=
 match l with
 | .cell a=>a.block=b
 | .obj r=>r=b
 | _=>False
def gT (G:ψ) (n iq:Nat) (e:Event):Prop:=
 match e.loc with
 | .cell a=>(n≤a.block∧a.block<iq)∨(a.spot=none∧(if e.write then G.owns a.block a.off else G.has a.block a.off))
 | .obj r=>e.sync=false∧((n≤r∧r<iq)∨G.eQ r)
 | .output=>True
 | .goroutines=>False
 | .mark m=>m=.noRoom
theorem mf {t u:Trace} {i:Nat} {a:Touch} (h:touchAt (t++u) i=some a):touchAt t i=some a∨(t.size≤i∧∃op∈u,(t++u)[i]?=some op∧op.act.touch?=some a):=by
 obtain⟨x,δ,vB⟩:=touch_of h;rcases getElem?_append_cases δ with⟨_,g8⟩|⟨hle,PX⟩
 ·exact .inl (by rw[touchAt_of g8];exact vB)
 ·exact .inr ⟨hle,x,PX,δ,vB⟩
theorem c8.own {t u:Trace} {i:Nat} {G:ψ} (h:c8 t (Knows t i) G) (hu:∀op∈u,op.g=i):c8 (t++u) (Knows (t++u) i) G:=by
 refine⟨fun b o v p η k a μ ω hw=>?_,fun b hb k a μ ω=>?_⟩
 ·rcases mf μ with dV|⟨_,op,Κ,υ,_⟩
  ·exact(h.aF b o v p η k a dV ω hw).app u
  ·have:=knows_own υ;rwa [hu op Κ] at this
 ·rcases mf μ with dV|⟨_,op,Κ,υ,_⟩
  ·exact(h.obj b hb k a dV ω).app u
  ·have:=knows_own υ;rwa [hu op Κ] at this
theorem c8.others {t u:Trace} {iR xN:Nat→Prop} {G:ψ} (h:c8 t iR G) (υ:∀i,iR i→xN i)
  (hu:∀op∈u,∀a,op.act.touch?=some a→(∀b o v p,a.loc=.cell ⟨b,o,none⟩→G.aF b o=some (v,p)→p=false∧a.write=false)∧∀b,a.loc=.obj b→¬G.eQ b):c8 (t++u) xN G:=by
 refine⟨fun b o v p η k a μ ω hw=>?_,fun b hb k a μ ω=>?_⟩
 ·rcases mf μ with dV|⟨_,op,Κ,_,δ⟩
  ·exact υ _ (h.aF b o v p η k a dV ω hw)
  ·have:=((hu op Κ a δ).1 b o v p ω η);rcases hw with hw|hw
   ·rw[this.1] at hw;cases hw
   ·rw[this.2] at hw;cases hw
 ·rcases mf μ with dV|⟨_,op,Κ,_,δ⟩
  ·exact υ _ (h.obj b hb k a dV ω)
  ·exact absurd hb ((hu op Κ a δ).2 b ω)
end Go.TL
