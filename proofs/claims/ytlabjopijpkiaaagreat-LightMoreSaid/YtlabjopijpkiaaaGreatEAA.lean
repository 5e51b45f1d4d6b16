import Derived.Conc.Beside
import Derived.Conc.MuSpec
import GoSem.Core.World
set_option maxHeartbeats 16000000
set_option maxRecDepth 20000
set_option linter.unusedSectionVars false
set_option linter.unusedSimpArgs false
set_option linter.unusedVariables false
namespace Go.TL
theorem a6 {α : Type _} {l : List α} {i : Nat} (h : i < l.length) : l[i]? = some l[i] := List.getElem?_eq_getElem h
theorem b0 {α : Type _} {l : List α} {i : Nat} {a : α} : l[i]? = some a ↔ ∃ h : i < l.length, l[i] = a := List.getElem?_eq_some_iff
theorem cy {α : Type _} {l : List α} {i : Nat} {a : α} (e : l[i]? = some a) : a ∈ l := List.mem_of_getElem? e
theorem dO {α : Type _} {l : List α} : l.length = 0 ↔ l = [] := List.length_eq_zero_iff
theorem dM {α : Type _} {v3 CI : List α} {i : Nat} (Θ : i < v3.length) : (v3 ++ CI)[i]? = v3[i]? := List.getElem?_append_left Θ
theorem gA {α : Type _} {v3 CI : List α} {i : Nat} (h : v3.length <= i) : (v3 ++ CI)[i]? = CI[i - v3.length]? := List.getElem?_append_right h
theorem fw {α : Type _} {xs : Array α} {i : Nat} (h : i < xs.size) : xs[i]? = some xs[i] := Array.getElem?_eq_getElem h
theorem J {p:Prop} (h:p:=by omega):p:=h
theorem bi {p:Prop} (h:p:=by(try simp only);omega):p:=h
theorem η {p:Prop} (h:p:=by simp):p:=h
theorem br {p:Prop} (h:p:=by decide):p:=h
theorem bG {α:Sort _} (a:α):∃x,a=x:=⟨a,rfl⟩
theorem aF {α:Sort _} (a:α):∃x,x=a:=⟨a,rfl⟩
def Obj.sS:Obj->Bool
 | .cells ..=>true
 | _=>false
structure Γ where
 aS:Nat->Nat->Option (Value×Bool)
 row:Nat->Option (TypeId×Nat)
 obj:Nat->Option Obj
def Γ.empty:Γ:=⟨λ_ _=>none,λ_=>none,λ_=>none⟩
end Go.TL
namespace Go.TL
open Go.Conc
open Go.ConcM (OsLater)
structure Fits (G:Γ) (w:World):Prop where
 aS:∀b o v p,G.aS b o=some (v,p)->w.cell? ⟨b,o,none⟩=some v
 row:∀b t n,G.row b=some (t,n)->∃c,w.heap[b]?=some (.cells c t (0,0))/\c.size=n
 obj:∀b x,G.obj b=some x->w.heap[b]?=some x/\Obj.sS x=false
def Γ.owns (G:Γ) (b o:Nat):Prop:=∃v,G.aS b o=some (v,true)
def Γ.has (G:Γ) (b o:Nat):Prop:=∃x,G.aS b o=some x
def Γ.fx (G:Γ) (b:Nat):Prop:=∃x,G.obj b=some x
structure Apart (G H:Γ):Prop where
 aS:∀b o,G.owns b o->¬H.has b o
 rJ:∀b o,H.owns b o->¬G.has b o
 obj:∀b,G.fx b->¬H.fx b
def Γ.off (G:Γ) (b:Nat):Prop:=(∀o,¬G.has b o)/\¬G.fx b
structure fV (own:Nat->Nat->Prop) (x2:Nat->Prop) (w w':World):Prop where
 size:w.heap.size<=w'.heap.size
 cells:∀b c t ep,w.heap[b]?=some (.cells c t ep)->∃c',w'.heap[b]?=some (.cells c' t ep)/\c'.size=c.size/\∀o,¬own b o->c'[o]?=c[o]?
 n5:∀b x,w.heap[b]?=some x->Obj.sS x=false->¬x2 b->w'.heap[b]?=some x
 os:OsLater w.os w'.os
 output:w'.output=w.output
 tape:w'.tape=w.tape
theorem fW {w:World} {b:Nat} {x:Obj} (h:w.heap[b]?=some x):b<w.heap.size:=by
 rcases Nat.lt_or_ge b w.heap.size with dh|dh
 ·exact dh
 ·rw[Array.getElem?_eq_none dh] at h;cases h
theorem rK {w:World} {b o:Nat} {v:Value} (h:w.cell? ⟨b,o,none⟩=some v):∃c t ep,w.heap[b]?=some (.cells c t ep)/\c[o]?=some v:=by
 unfold World.cell? at h;cases hb:w.heap[b]? with
 | none=>simp[hb] at h
 | some x=>
  cases x<;>simp[hb] at h;exact⟨_,_,_,rfl,h⟩
theorem oN {w:World} {b o:Nat} {v:Value} {c:Array Value} {t:TypeId} {ep:Nat×Nat} (h:w.heap[b]?=some (.cells c t ep)) (hv:c[o]?=some v):w.cell? ⟨b,o,none⟩=some v:=by
 simp[World.cell?,h,hv]
theorem fV.refl (own:Nat->Nat->Prop) (x2:Nat->Prop) (w:World):fV own x2 w w:=
 ⟨Nat.le_refl _,λb c t ep h=>⟨c,h,rfl,λ_ _=>rfl⟩,λ_ _ h _ _=>h,OsLater.refl _,rfl,rfl⟩
theorem Fits.keeps {own:Nat->Nat->Prop} {x2:Nat->Prop} {w w':World} {H:Γ} (Ρ:Fits H w) (ψ:fV own x2 w w') (U:∀b o,own b o->¬H.has b o) (γ:∀b,x2 b->¬H.fx b):Fits H w':=by
 refine⟨λb o v p h=>?_,λb t n h=>?_,λb x h=>?_⟩
 ·obtain⟨c,t,ep,hb,hv⟩:=rK (Ρ.aS b o v p h);obtain⟨c',ec,_,ε⟩:=ψ.cells b c t ep hb;exact oN ec (by rw[ε o λx=>U b o x ⟨_,h⟩];exact hv)
 ·obtain⟨c,hb,ξ⟩:=Ρ.row b t n h;obtain⟨c',ec,jS,_⟩:=ψ.cells b c t _ hb;exact⟨c',ec,by rw[jS,ξ]⟩
 ·obtain⟨hb,δ⟩:=Ρ.obj b x h;exact⟨ψ.n5 b x hb δ λy=>γ b y ⟨_,h⟩,δ⟩
theorem Fits.at {H:Γ} {w:World} (h:Fits H w) (d:Nat):Fits H (w.at d):=⟨h.aS,h.row,h.obj⟩
structure dE (t:Trace) (kp:Nat->Prop) (G:Γ):Prop where
 aS:∀b o v p,G.aS b o=some (v,p)->∀i a,touchAt t i=some a->a.loc=.cell ⟨b,o,none⟩->(p=true\/a.write=true)->kp i
 obj:∀b,G.fx b->∀i a,touchAt t i=some a->a.loc=.obj b->kp i
theorem dE.mono {t:Trace} {kp zO:Nat->Prop} {G:Γ} (h:dE t kp G) (ψ:∀i,kp i->zO i):dE t zO G:=
 ⟨λb o v p ε i a ν π hw=>ψ i (h.aS b o v p ε i a ν π hw),λb hb i a ν π=>ψ i (h.obj b hb i a ν π)⟩
def oO (l:Loc) (b:Nat):Prop:=
 match l with
 | .cell a=>a.block=b
 | .obj r=>r=b
 | _=>False
def h2 (G:Γ) (n jT:Nat) (e:Event):Prop:=
 match e.loc with
 | .cell a=>(n<=a.block/\a.block<jT)\/(a.spot=none/\(if e.write then G.owns a.block a.off else G.has a.block a.off))
 | .obj r=>e.sync=false/\((n<=r/\r<jT)\/G.fx r)
 | .output=>True
 | .goroutines=>False
 | .mark m=>m=.noRoom
theorem n6 {t u:Trace} {i:Nat} {a:Touch} (h:touchAt (t++u) i=some a):touchAt t i=some a\/(t.size<=i/\∃op∈u,(t++u)[i]?=some op/\op.act.touch?=some a):=by
 obtain⟨x,δ,x3⟩:=touch_of h;rcases getElem?_append_cases δ with⟨_,iv⟩|⟨hle,Te⟩
 ·exact .inl (by rw[touchAt_of iv];exact x3)
 ·exact .inr ⟨hle,x,Te,δ,x3⟩
theorem dE.own {t u:Trace} {i:Nat} {G:Γ} (h:dE t (Knows t i) G) (hu:∀op∈u,op.g=i):dE (t++u) (Knows (t++u) i) G:=by
 refine⟨λb o v p ε k a ν π hw=>?_,λb hb k a ν π=>?_⟩
 ·rcases n6 ν with ew|⟨_,op,Τ,ψ,_⟩
  ·exact(h.aS b o v p ε k a ew π hw).app u
  ·have:=knows_own ψ;rwa [hu op Τ] at this
 ·rcases n6 ν with ew|⟨_,op,Τ,ψ,_⟩
  ·exact(h.obj b hb k a ew π).app u
  ·have:=knows_own ψ;rwa [hu op Τ] at this
theorem dE.others {t u:Trace} {kp zO:Nat->Prop} {G:Γ} (h:dE t kp G) (ψ:∀i,kp i->zO i)
  (hu:∀op∈u,∀a,op.act.touch?=some a->(∀b o v p,a.loc=.cell ⟨b,o,none⟩->G.aS b o=some (v,p)->p=false/\a.write=false)/\∀b,a.loc=.obj b->¬G.fx b):dE (t++u) zO G:=by
 refine⟨λb o v p ε k a ν π hw=>?_,λb hb k a ν π=>?_⟩
 ·rcases n6 ν with ew|⟨_,op,Τ,_,δ⟩
  ·exact ψ _ (h.aS b o v p ε k a ew π hw)
  ·have:=((hu op Τ a δ).1 b o v p π ε);rcases hw with hw|hw
   ·rw[this.1] at hw;cases hw
   ·rw[this.2] at hw;cases hw
 ·rcases n6 ν with ew|⟨_,op,Τ,_,δ⟩
  ·exact ψ _ (h.obj b hb k a ew π)
  ·exact absurd hb ((hu op Τ a δ).2 b π)
end Go.TL
