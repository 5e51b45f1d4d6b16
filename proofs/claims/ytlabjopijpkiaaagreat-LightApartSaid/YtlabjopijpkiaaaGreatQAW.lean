import Derived.Sort.AssemblyPlain
import Derived.Test.YtlabjopijpkiaaaGreatQAV
set_option maxHeartbeats 16000000
set_option maxRecDepth 20000
set_option linter.unusedSectionVars false
set_option linter.unusedSimpArgs false
set_option linter.unusedVariables false
namespace Go.TL
open Go.Proofs
variable [bd]
theorem az.hE {a:θ} (h:az 0 a) (ρ:List Nat):hE ρ a=a:=by
 cases h with
 | ag h=>omega
 | ms h=>omega
 | mp h=>omega
 | it h=>omega
 | _=>rfl
theorem CR {l:List θ} (h:∀a∈l,az 0 a) (ρ:List Nat):l.map (hE ρ)=l:=by
 induction l with
 | nil=>rfl
 | cons a l Γ=>rw[List.map_cons,(h a (by simp)).hE,Γ fun x δ=>h x (by simp[δ])]
theorem az.dP {a:θ} (h:az 0 a) (ρ:List Nat):dP ρ a=a:=by
 have ae:=h;cases h with
 | aU h=>simp only[Go.TL.dP];rw[CR h]
 | bt h=>simp only[Go.TL.dP];rw[CR h]
 | fn R γ=>simp only[Go.TL.dP];rw[CR R,CR γ]
 | _=>exact ae.hE ρ
theorem az.top {a:θ} (h:az 0 a) (n:Nat):oh n a:=by
 have ae:=h;cases h with
 | ag h=>omega
 | ms h=>omega
 | mp h=>omega
 | it h=>omega
 | _=>exact ae
theorem az.ih {a:θ} (h:az 0 a) (n:Nat):fJ n a:=by
 have ae:=h;cases h with
 | aU h=>exact fun a μ=>(h a μ).top n
 | bt h=>exact fun a μ=>(h a μ).top n
 | fn R γ=>exact⟨fun a μ=>(R a μ).top n,fun a μ=>(γ a μ).top n⟩
 | _=>exact ae.top n
theorem nn {h id n i len:Nat}:fJ h (.ms id n i len)↔id<h:=Iff.rfl
theorem uS {h:Nat} {v:Value}:fJ h (.z v)↔True:=⟨fun _=>trivial,fun _=>(az.z v).ih h⟩
theorem np {ρ:List Nat} {id n i len:Nat}:dP ρ (.ms id n i len)=.ms (ρ.getD id 0) n i len:=rfl
theorem nq {ρ:List Nat} {v:Value}:dP ρ (.z v)=.z v:=rfl
section
variable {P:Program} {σ:List Row}
theorem ak.one {g:FuncId} {as0:List θ} {row row':Row} {r:θ} {K E:θ→List Row→Prop} (h:ak P g as0 [row] (fun a s=>a=r∧s=[row']) (fun _ _=>False)) (id:Nat) (bU:σ[id]?=some row) (χ:ie row) (fP:ie row') (μ:∀a∈as0,fJ 1 a) (κ:fJ 1 r)
  {args:List θ} (lM:args=as0.map (dP [id])) (I:K (dP [id] r) (σ.set id row')):hR P (.fn (.func g) [] []) args σ K E:=by
 subst lM;have aS:=ak.rows (σ:=σ) h [id] (by simp) rfl (fun j i ε=>by
  cases j with
  | zero=>simp at ε;subst ε;exact bU
  | succ j=>simp at ε) (fun r κ=>by simp at κ;subst κ;exact χ) (by simpa using μ) (K':=K) (E':=E) (fun a s ⟨R,γ⟩=>by
   subst R;subst γ;refine⟨fun x δ=>by simp at δ;subst δ;exact fP,κ,?_⟩;simpa[names,rG,ic] using I) (fun a s h=>h.elim)
 exact ak.call (first:=[]) (captured:=[]) (by simpa using aS)
end
section
variable {P:Program} {σ:List Row}
theorem ak.GK {g:FuncId} {as0:List θ} {row:Row} {K0 K E:θ→List Row→Prop} (h:ak P g as0 [row] K0 (fun _ _=>False)) (id:Nat) (bU:σ[id]?=some row) (χ:ie row) (μ:∀a∈as0,fJ 1 a)
  {args:List θ} (lM:args=as0.map (dP [id])) (I:∀a s,K0 a s→∃row',s=[row']∧ie row'∧fJ 1 a∧K (dP [id] a) (σ.set id row')):hR P (.fn (.func g) [] []) args σ K E:=by
 subst lM;have aS:=ak.rows (σ:=σ) h [id] (by simp) rfl (fun j i ε=>by
  cases j with
  | zero=>simp at ε;subst ε;exact bU
  | succ j=>simp at ε) (fun r κ=>by simp at κ;subst κ;exact χ) (by simpa using μ) (K':=K) (E':=E) (fun a s ae=>by
   obtain⟨row',rfl,fP,κ,υ⟩:=I a s ae;refine⟨fun x δ=>by simp at δ;subst δ;exact fP,κ,?_⟩;simpa[names,rG,ic] using υ) (fun a s h=>h.elim)
 exact ak.call (first:=[]) (captured:=[]) (by simpa using aS)
end
theorem uT {α:Type} {f:α→θ} {t k:Nat} {l:List α} (h:∀x,∀a∈(f x).cells,az 0 a):ie (.cells t k (l.map f)):=fun e he a μ=>by
 obtain⟨x,_,rfl⟩:=List.mem_map.1 he;exact h x a μ
theorem ey.part {id k m:Nat} {σ:List Row} {t:TypeId} {l l2:List θ} (bH:σ[id]?=some (.cells t k (l++l2))) (hm:l.length=m) (hb:∀e∈l,∀a∈e.cells,az 0 a):ey 0 σ (.ms id (l++l2).length 0 m) (.sl false k l):=by
 subst hm;refine .ms (Nat.zero_le _) bH rfl (by simp) rfl (fun j e aH R γ=>?_) (fun j e aH R γ x a b9 ο Ι=>?_)
 ·have ε:=(b3.1 γ).1;rw[Nat.zero_add,dU ε] at R;rw[R] at γ;cases γ;rfl
 ·have ε:=(b3.1 γ).1;rw[Nat.zero_add,dU ε] at R;rw[R] at γ;cases γ;rw[ο] at Ι;cases Ι;exact .low (hb e (cl R) a (cl ο))
theorem rJ {α:Type} [Inhabited α] {d:Array α} {i:Nat} (h:i<d.size):d[i]?=some d[i]!:=by simp[h]
def ar {α:Type} (cmp:α→α→Int) (x y:α):Bool:=decide (cmp x y<0)
end Go.TL
