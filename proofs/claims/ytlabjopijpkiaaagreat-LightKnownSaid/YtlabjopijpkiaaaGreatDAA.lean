import Derived.Conc.Beside
import Derived.Conc.MuSpec
import GoSem.Core.World
set_option maxHeartbeats 16000000
set_option maxRecDepth 20000
set_option linter.unusedSectionVars false
set_option linter.unusedSimpArgs false
set_option linter.unusedVariables false
namespace Go.TL
theorem ba {α : Type _} {l : List α} {i : Nat} (h : i < l.length) : l[i]? = some l[i] := List.getElem?_eq_getElem h
theorem bV {α : Type _} {l : List α} {i : Nat} {a : α} : l[i]? = some a ↔ ∃ h : i < l.length, l[i] = a := List.getElem?_eq_some_iff
theorem cx {α : Type _} {l : List α} {i : Nat} {a : α} (e : l[i]? = some a) : a ∈ l := List.mem_of_getElem? e
theorem dB {α : Type _} {l : List α} : l.length = 0 ↔ l = [] := List.length_eq_zero_iff
theorem dv {α : Type _} {um Bc : List α} {i : Nat} (Ε : i < um.length) : (um ++ Bc)[i]? = um[i]? := List.getElem?_append_left Ε
theorem h4 {α : Type _} {um Bc : List α} {i : Nat} (h : um.length <= i) : (um ++ Bc)[i]? = Bc[i - um.length]? := List.getElem?_append_right h
theorem gF {α : Type _} {xs : Array α} {i : Nat} (h : i < xs.size) : xs[i]? = some xs[i] := Array.getElem?_eq_getElem h
theorem γ {p:Prop} (h:p:=by omega):p:=h
theorem η {p:Prop} (h:p:=by simp):p:=h
theorem a0 {p:Prop} (h:p:=by decide):p:=h
theorem gW {α:Sort _} (a:α):∃x,a=x:=⟨a,rfl⟩
theorem aO {α:Sort _} (a:α):∃x,x=a:=⟨a,rfl⟩
def Obj.rE:Obj->Bool
 | .cells ..=>true
 | _=>false
structure π where
 aJ:Nat->Nat->Option (Value×Bool)
 row:Nat->Option (TypeId×Nat)
 obj:Nat->Option Obj
def π.empty:π:=⟨λ_ _=>none,λ_=>none,λ_=>none⟩
end Go.TL
namespace Go.TL
open Go.Conc
open Go.ConcM (OsLater)
structure Fits (G:π) (w:World):Prop where
 aJ:∀b o v p,G.aJ b o=some (v,p)->w.cell? ⟨b,o,none⟩=some v
 row:∀b t n,G.row b=some (t,n)->∃c,w.heap[b]?=some (.cells c t (0,0))/\c.size=n
 obj:∀b x,G.obj b=some x->w.heap[b]?=some x/\Obj.rE x=false
def π.owns (G:π) (b o:Nat):Prop:=∃v,G.aJ b o=some (v,true)
def π.has (G:π) (b o:Nat):Prop:=∃x,G.aJ b o=some x
def π.e7 (G:π) (b:Nat):Prop:=∃x,G.obj b=some x
structure Apart (G H:π):Prop where
 aJ:∀b o,G.owns b o->¬H.has b o
 qv:∀b o,H.owns b o->¬G.has b o
 obj:∀b,G.e7 b->¬H.e7 b
def π.off (G:π) (b:Nat):Prop:=(∀o,¬G.has b o)/\¬G.e7 b
structure fv (own:Nat->Nat->Prop) (wm:Nat->Prop) (w w':World):Prop where
 size:w.heap.size<=w'.heap.size
 cells:∀b c t dV,w.heap[b]?=some (.cells c t dV)->∃c',w'.heap[b]?=some (.cells c' t dV)/\c'.size=c.size/\∀o,¬own b o->c'[o]?=c[o]?
 mQ:∀b x,w.heap[b]?=some x->Obj.rE x=false->¬wm b->w'.heap[b]?=some x
 os:OsLater w.os w'.os
 output:w'.output=w.output
 tape:w'.tape=w.tape
theorem fw {w:World} {b:Nat} {x:Obj} (h:w.heap[b]?=some x):b<w.heap.size:=by
 rcases Nat.lt_or_ge b w.heap.size with c9|c9
 ·exact c9
 ·rw[Array.getElem?_eq_none c9] at h;cases h
theorem qw {w:World} {b o:Nat} {v:Value} (h:w.cell? ⟨b,o,none⟩=some v):∃c t dV,w.heap[b]?=some (.cells c t dV)/\c[o]?=some v:=by
 unfold World.cell? at h;cases hb:w.heap[b]? with
 | none=>simp[hb] at h
 | some x=>
  cases x<;>simp[hb] at h;exact⟨_,_,_,rfl,h⟩
theorem nj {w:World} {b o:Nat} {v:Value} {c:Array Value} {t:TypeId} {dV:Nat×Nat} (h:w.heap[b]?=some (.cells c t dV)) (hv:c[o]?=some v):w.cell? ⟨b,o,none⟩=some v:=by
 simp[World.cell?,h,hv]
theorem fv.refl (own:Nat->Nat->Prop) (wm:Nat->Prop) (w:World):fv own wm w w:=
 ⟨Nat.le_refl _,λb c t dV h=>⟨c,h,rfl,λ_ _=>rfl⟩,λ_ _ h _ _=>h,OsLater.refl _,rfl,rfl⟩
theorem Fits.keeps {own:Nat->Nat->Prop} {wm:Nat->Prop} {w w':World} {H:π} (Υ:Fits H w) (ψ:fv own wm w w') (I:∀b o,own b o->¬H.has b o) (R:∀b,wm b->¬H.e7 b):Fits H w':=by
 refine⟨λb o v p h=>?_,λb t n h=>?_,λb x h=>?_⟩
 ·obtain⟨c,t,dV,hb,hv⟩:=qw (Υ.aJ b o v p h);obtain⟨c',dF,_,ε⟩:=ψ.cells b c t dV hb;exact nj dF (by rw[ε o λx=>I b o x ⟨_,h⟩];exact hv)
 ·obtain⟨c,hb,μ⟩:=Υ.row b t n h;obtain⟨c',dF,iK,_⟩:=ψ.cells b c t _ hb;exact⟨c',dF,by rw[iK,μ]⟩
 ·obtain⟨hb,U⟩:=Υ.obj b x h;exact⟨ψ.mQ b x hb U λy=>R b y ⟨_,h⟩,U⟩
theorem Fits.at {H:π} {w:World} (h:Fits H w) (d:Nat):Fits H (w.at d):=⟨h.aJ,h.row,h.obj⟩
structure dm (t:Trace) (ju:Nat->Prop) (G:π):Prop where
 aJ:∀b o v p,G.aJ b o=some (v,p)->∀i a,touchAt t i=some a->a.loc=.cell ⟨b,o,none⟩->(p=true\/a.write=true)->ju i
 obj:∀b,G.e7 b->∀i a,touchAt t i=some a->a.loc=.obj b->ju i
theorem dm.mono {t:Trace} {ju yq:Nat->Prop} {G:π} (h:dm t ju G) (ψ:∀i,ju i->yq i):dm t yq G:=
 ⟨λb o v p ε i a κ υ hw=>ψ i (h.aJ b o v p ε i a κ υ hw),λb hb i a κ υ=>ψ i (h.obj b hb i a κ υ)⟩
def nk (l:Loc) (b:Nat):Prop:=
 match l with
 | .cell a=>a.block=b
 | .obj r=>r=b
 | _=>False
def hc (G:π) (n iL:Nat) (e:Event):Prop:=
 match e.loc with
 | .cell a=>(n<=a.block/\a.block<iL)\/(a.spot=none/\(if e.write then G.owns a.block a.off else G.has a.block a.off))
 | .obj r=>e.sync=false/\((n<=r/\r<iL)\/G.e7 r)
 | .output=>True
 | .goroutines=>False
 | .mark m=>m=.noRoom
theorem mR {t u:Trace} {i:Nat} {a:Touch} (h:touchAt (t++u) i=some a):touchAt t i=some a\/(t.size<=i/\∃op∈u,(t++u)[i]?=some op/\op.act.touch?=some a):=by
 obtain⟨x,U,wq⟩:=touch_of h;rcases getElem?_append_cases U with⟨_,hy⟩|⟨hle,QB⟩
 ·exact .inl (by rw[touchAt_of hy];exact wq)
 ·exact .inr ⟨hle,x,QB,U,wq⟩
theorem dm.own {t u:Trace} {i:Nat} {G:π} (h:dm t (Knows t i) G) (hu:∀op∈u,op.g=i):dm (t++u) (Knows (t++u) i) G:=by
 refine⟨λb o v p ε k a κ υ hw=>?_,λb hb k a κ υ=>?_⟩
 ·rcases mR κ with eo|⟨_,op,Κ,ψ,_⟩
  ·exact(h.aJ b o v p ε k a eo υ hw).app u
  ·have:=knows_own ψ;rwa [hu op Κ] at this
 ·rcases mR κ with eo|⟨_,op,Κ,ψ,_⟩
  ·exact(h.obj b hb k a eo υ).app u
  ·have:=knows_own ψ;rwa [hu op Κ] at this
theorem dm.others {t u:Trace} {ju yq:Nat->Prop} {G:π} (h:dm t ju G) (ψ:∀i,ju i->yq i)
  (hu:∀op∈u,∀a,op.act.touch?=some a->(∀b o v p,a.loc=.cell ⟨b,o,none⟩->G.aJ b o=some (v,p)->p=false/\a.write=false)/\∀b,a.loc=.obj b->¬G.e7 b):dm (t++u) yq G:=by
 refine⟨λb o v p ε k a κ υ hw=>?_,λb hb k a κ υ=>?_⟩
 ·rcases mR κ with eo|⟨_,op,Κ,_,U⟩
  ·exact ψ _ (h.aJ b o v p ε k a eo υ hw)
  ·have:=((hu op Κ a U).1 b o v p υ ε);rcases hw with hw|hw
   ·rw[this.1] at hw;cases hw
   ·rw[this.2] at hw;cases hw
 ·rcases mR κ with eo|⟨_,op,Κ,_,U⟩
  ·exact ψ _ (h.obj b hb k a eo υ)
  ·exact absurd hb ((hu op Κ a U).2 b υ)
end Go.TL
