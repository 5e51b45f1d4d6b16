import Derived.KernelRfl
import Derived.Test.YtlabjopijpkiaaaGreatProg
import Derived.Test.YtlabjopijpkiaaaGreatQAK
set_option maxHeartbeats 16000000
set_option maxRecDepth 20000
set_option linter.unusedSectionVars false
set_option linter.unusedSimpArgs false
set_option linter.unusedVariables false
namespace Go.TL
open Go.Conc
variable [bn]
def cC (a b:θ):Prop:=∀(S:aC) (B:aP) (σ:List Row) (v:Value),ar S B σ a v->ar S B σ b v
def aK (l m:List θ):Prop:=l.length=m.length/\∀(i:Nat) (a b:θ),l[i]?=some a->m[i]?=some b->cC a b
theorem cC.refl (a:θ):cC a a:=λ_ _ _ _ h=>h
theorem cC.of {a b:θ} (h:a=b):cC a b:=h▸.refl a
theorem cC.trans {a b c:θ} (h:cC a b) (k:cC b c):cC a c:=λS B σ v x=>k S B σ v (h S B σ v x)
theorem aK.refl (l:List θ):aK l l:=⟨rfl,λi a b h k=>by rw[h] at k;cases k;exact .refl a⟩
theorem aK.nil:aK [] []:=.refl []
theorem aK.cons {a b:θ} {l m:List θ} (h:cC a b) (k:aK l m):aK (a::l) (b::m):=⟨by simp[k.1],λi x y U Ο=>by
 cases i with
 | zero=>simp at U Ο;subst U;subst Ο;exact h
 | succ i=>exact k.2 i x y (by simpa using U) (by simpa using Ο)⟩
theorem cC.aW {l m:List θ} (h:aK l m):cC (.aW l) (.aW m):=λS B σ v x=>by
 cases x with
 | aW vs J γ=>
  refine .aW vs (h.1.symm.trans J) λi b v hi hv=>?_;have aH:i<l.length:=by rw[h.1];exact(b7.1 hi).1
  have ν:=a2 aH;exact h.2 i _ b ν hi S B σ v (γ i _ v ν hv)
theorem cC.bu {l m:List θ} (h:aK l m):cC (.bu l) (.bu m):=λS B σ v x=>by
 cases x with
 | bu vs J γ=>
  refine .bu vs (h.1.symm.trans J) λi b v hi hv=>?_;have aH:i<l.length:=by rw[h.1];exact(b7.1 hi).1
  have ν:=a2 aH;exact h.2 i _ b ν hi S B σ v (γ i _ v ν hv)
theorem cC.sl {e:Bool} {k:Nat} {l m:List θ} (hlen:l.length=m.length) (h:∀(i:Nat) (a b:θ),l[i]?=some a->m[i]?=some b->aK a.cells b.cells):cC (.sl e k l) (.sl false k m):=λS B σ v x=>by
 have up:∀(i:Nat) (b:θ),m[i]?=some b->∃a,l[i]?=some a/\aK a.cells b.cells:=λi b hi=>by
  have aH:i<l.length:=by rw[hlen];exact(b7.1 hi).1
  exact⟨_,a2 aH,h i _ b (a2 aH) hi⟩
 cases x with
 | iI base cap ζ=>
  have:m=[]:=dp.1 hlen.symm;subst this;exact .iI base cap λx=>by cases x
 | sl b o cap w J γ π Μ aB=>
  rw[hlen];refine .sl b o cap w (λx=>by cases x) (by omega) (λi y hi=>?_) (λi y hi j c ε=>?_) (λi y hi j c ε=>?_)
  ·obtain⟨a,ν,gS⟩:=up i y hi;rw[<-gS.1];exact π i a ν
  ·obtain⟨a,ν,gS⟩:=up i y hi;have aH:j<a.cells.length:=by rw[gS.1];exact(b7.1 ε).1
   exact Μ i a ν j _ (a2 aH)
  ·obtain⟨a,ν,gS⟩:=up i y hi;have aH:j<a.cells.length:=by rw[gS.1];exact(b7.1 ε).1
   have ζ:=a2 aH;exact gS.2 j _ c ζ ε S B σ _ (aB i a ν j _ ζ)
theorem cC.ex {e:Bool} {k:Nat} {l:List θ}:cC (.sl e k l) (.sl false k l):=.sl rfl λi a b J γ=>by rw[J] at γ;cases γ;exact .refl _
theorem cC.nil {e:Bool} {k ab:Nat}:cC (.sl e k []) (.sl false ab []):=λS B σ v x=>by
 have g:∀(l:List θ),l=[]->ar S B σ (.sl e k l) v->ar S B σ (.sl false ab []) v:=λl Α x=>by
  cases x with
  | iI base cap ζ=>exact .iI base cap λx=>by cases x
  | sl b o cap w J γ π Μ aB=>subst Α;exact .iI _ cap λx=>by cases x
 exact g [] rfl x
theorem cC.map {α:Type} {f g:α->θ} {e:Bool} {k:Nat} {l:List α} (h:∀x∈l,aK (f x).cells (g x).cells):cC (.sl e k (l.map f)) (.sl false k (l.map g)):=.sl (by simp) λi a b J γ=>by
 rw[List.getElem?_map] at J γ;cases U:l[i]? with
 | none=>rw[U] at J;cases J
 | some x=>rw[U] at J γ;cases J;cases γ;exact h x (cv U)
theorem aK.one {a b:θ} (h:cC a b) (ν:a.cells=[a]) (hb:b.cells=[b]):aK a.cells b.cells:=by rw[ν,hb];exact .cons h .nil
section
variable {P:Program} {σ:List Row}
theorem fg.xW {S:aC} {B:aP} {l m:List θ} {vs:Array Value} (h:aK l m) (k:fg S B σ l vs):fg S B σ m vs:=⟨h.1.symm.trans k.1,λi b v hi hv=>by
 have aH:i<l.length:=by rw[h.1];exact(b7.1 hi).1
 have ν:=a2 aH;exact h.2 i _ b ν hi S B σ v (k.2 i _ v ν hv)⟩
theorem ak.kQ {g:FuncId} {args gk:List θ} {K K' E:θ->List Row->Prop} (h:ak P g args σ K E) (ν:aK gk args) (I:∀a s,K a s->∃b,cC a b/\K' b s):ak P g gk σ K' E:=
 ⟨h.1,λQ mn x c rest S B H vs U Β hv hb=>h.2 Q mn x c rest S B H vs U Β (hv.xW ν) ⟨λa σ' ay B' H' v χ he Α jc μ=>by
  obtain⟨b,J,γ⟩:=I a σ' χ;exact hb.ret b σ' ay B' H' v γ he Α jc (J ay B' σ' v μ),hb.x0⟩⟩
def az (P:Program) (g:FuncId) (args:List θ) (r:θ):Prop:=ak P g args [] (λa s=>cC a r/\s=[]) (λ_ _=>False)
theorem az.ct {g:FuncId} {args gk:List θ} {r:θ} (h:az P g args r) (ν:aK gk args):Ab P g gk r:=ak.kQ h ν λa s ⟨J,γ⟩=>⟨r,J,rfl,γ⟩
theorem az.c {g:FuncId} {args gk:List θ} {r:θ} {K E:θ->List Row->Prop} (h:az P g args r) (ν:aK gk args) (hb:∀a∈gk,av 0 a) (μ:av 0 r) (I:K r σ):h1 P (.fn (.func g) [] []) gk σ K E:=
 Ab.call (first:=[]) (captured:=[]) (by simpa using h.ct ν) (by simpa using hb) μ I
theorem az.p {g:FuncId} {args gk:List θ} {r:θ} (h:az P g args r) (ν:aK gk args) (hb:∀a∈gk,av 0 a) (μ:av 0 r):gj P (.fn (.func g) [] []) gk r:=λ_=>h.c ν hb μ ⟨rfl,rfl⟩
theorem az.cc {g:FuncId} {args gk first captured:List θ} {r:θ} {K E:θ->List Row->Prop} (h:az P g args r) (ν:aK (first++gk++captured) args) (hb:∀a∈first++gk++captured,av 0 a) (μ:av 0 r) (I:K r σ):h1 P (.fn (.func g) first captured) gk σ K E:=
 Ab.call (h.ct ν) hb μ I
end
theorem eE.own {h id n k:Nat} {σ:List Row} {t:TypeId} {l:List θ} (bS:h<=id) (bL:σ[id]?=some (.cells t k l)) (Ι:l.length=n) (hb:∀e∈l,∀a∈e.cells,av h a):eE h σ (.ms id n 0 n) (.sl false k l):=by
 refine .ms bS bL Ι (by omega) Ι (λj e aJ J γ=>?_) (λj e aJ J γ x a b9 π Μ=>?_)
 ·rw[Nat.zero_add] at J;rw[J] at γ;cases γ;rfl
 ·rw[Nat.zero_add] at J;rw[J] at γ;cases γ;rw[π] at Μ;cases Μ;exact .low (hb e (cv J) a (cv π))
def fill {α:Type} (f:α->θ) (z:θ) (l:List α) (i:Nat):List θ:=(l.take i).map f++List.replicate (l.length-i) z
theorem Wc {α:Type} (f:α->θ) (z:θ) (l:List α):fill f z l 0=List.replicate l.length z:=by simp[fill]
theorem Wd {α:Type} (f:α->θ) (z:θ) (l:List α) {i:Nat} (h:l.length<=i):fill f z l i=l.map f:=by simp[fill,List.take_of_length_le h,Nat.sub_eq_zero_of_le h]
theorem We {α:Type} (f:α->θ) (z:θ) (l:List α) {i:Nat} (h:i<=l.length):(fill f z l i).length=l.length:=by simp[fill];omega
theorem Wf {α:Type} (f:α->θ) (z:θ) (l:List α) {i:Nat} (h:i<l.length):(fill f z l i)[i]?=some z:=by
 unfold fill;rw[hE (by simp;omega),List.getElem?_replicate];rw[if_pos (by simp;omega)]
theorem Wg {α:Type} (f:α->θ) (z:θ) (l:List α) {i:Nat} (h:i<l.length):(fill f z l i).set i (f l[i])=fill f z l (i+1):=by
 unfold fill;have Ε:l.length-i=(l.length-(i+1))+1:=by omega
 have Ζ:((l.take i).map f).length=i:=by simp;omega
 rw[Ε,List.replicate_succ,List.set_append_right _ _ (by omega),Ζ,Nat.sub_self,List.set_cons_zero,List.take_succ_eq_append_getElem h,List.map_append,List.append_assoc];rfl
end Go.TL
namespace Go.TL
open Go.Proofs
variable [bn]
def HZ (P:Program) (t:TypeId):Option (List (TypeDesc×Nat)):=
 if P.eqGuardType P.depth t=false then match P.underlying t with
  | some (.struct c9)=>if P.stoodInHeld t=false/\c9.toList.map (·.offset)=List.range c9.toList.length/\(c9.toList.all λf=>f.name != "_" && match P.underlying f.type with|some d=>jb d|none=>false)=true then some (c9.toList.map λf=>((P.underlying f.type).getD .invalid,f.offset)) else none
  | some (.array n e)=>match P.underlying e,P.info? e with
   | some d,some f=>if jb d=true/\f.size=1 then some ((List.range n).map λi=>(d,i)) else none
   | _,_=>none
  | _=>none
 else none
theorem Wh (P:Program) (t:TypeId):G1 P t (HZ P t):=by
 unfold HZ;split
 ·rename_i Υ;split
  ·rename_i c9 hu;split
   ·rename_i ζ;refine⟨Υ,by rw[List.map_map,List.length_map];exact ζ.2.1,.inl ⟨c9,hu,ζ.1,rfl,λf Τ=>?_⟩⟩;have:=List.all_eq_true.1 ζ.2.2 f Τ;simp only[Bool.and_eq_true,bne_iff_ne,ne_eq] at this;refine⟨this.1,?_⟩;cases hd:P.underlying f.type with
    | none=>rw[hd] at this;simp at this
    | some d=>rw[hd] at this;exact⟨d,rfl,this.2⟩
   ·trivial
  ·rename_i n e hu;split
   ·rename_i d f hd Τ;split
    ·rename_i ζ;exact⟨Υ,by rw[List.map_map,List.length_map,List.length_range];exact(List.map_congr_left λ_ _=>rfl).trans (List.map_id _),.inr ⟨n,e,d,f,hu,hd,ζ.1,Τ,ζ.2,rfl⟩⟩
    ·trivial
   ·trivial
  ·trivial
 ·trivial
def bd.of (P:Program):bd:=λt=>match P.underlying t,P.info? t with
 | some d,some i=>match i.zero with|some z=>some ⟨i.size,d,z,i.bytes,HZ P t⟩|none=>none
 | _,_=>none
theorem bd.D' (P:Program):bT P (bd.of P):=λt i h=>by
 unfold bd.of at h;split at h
 ·rename_i d f hd Τ;split at h
  ·rename_i z Η;cases h;exact⟨⟨hd,Wh P t⟩,f,Τ,rfl,Η,rfl⟩
  ·cases h
 ·cases h
noncomputable def bk:bd:=bd.of Tryz.prog
theorem Κ:bT Tryz.prog bk:=bd.D' _
def vX (pl:List (Nat×Nat)) (zero:Value) (a8:θ->Bool) (parts:List (Nat×θ)):cB:=
 match qU (λx=>(pl[x]?).map λp=>(0,p.1,p.2)) (hy zero).cells.length a8 [hy zero] parts with
 | some [e]=>.ok (.aW e.cells)
 | _=>.bad
def Ao (es:Nat) (zero:Value) (a8:θ->Bool) (parts:List (Nat×θ)):cB:=
 match qU (λx=>some (0,x*es,es)) (hy zero).cells.length a8 [hy zero] parts with
 | some [e]=>.ok (.aW e.cells)
 | _=>.bad
theorem mixed:Tryz.prog.follows .mixedOrders=true:=by kernel_rfl
section
variable {P:Program} {m nt:Nat} {k:List Item} {env:Ω} {σ:List Row} {Z:List Item->Ω->List Row->Prop} {E:θ->Ω->List Row->Prop}
theorem W.iter {ι:Type} {c:Code} (Inv:ι->Prop) (Ap:ι->Ω) (Ea:ι->List Row) (H0:ι->Nat) (i0:ι) (ah:Inv i0) (lG:σ=Ea i0) (cL:∀p∈Ap i0,a5 env p.1=p.2)
  (step:∀i,Inv i->(∀eD,Inv eD->H0 eD<H0 i->W P m nt (.inLoop c::k) (Ap eD) (Ea eD) Z E)->W P m nt (.code c::.inLoop c::k) (Ap i) (Ea i) Z E):W P m nt (.code (.loop c)::k) env σ Z E:=by
 refine .loop (.forget (Ap i0) cL ?_);rw[lG];have key:∀(n:Nat) (i:ι),H0 i<n->Inv i->W P m nt (.code c::.inLoop c::k) (Ap i) (Ea i) Z E:=by
  intro n
  induction n with
  | zero=>intro i h;omega
  | succ n Δ=>intro i hi fr;exact step i fr λeD Wi aH=>.inLoop (Δ eD (by omega) Wi)
 exact key _ i0 (Nat.lt_succ_self _) ah
end
section
variable {P:Program} {m nt:Nat} {k:List Item} {env:Ω} {σ:List Row} {Z:List Item->Ω->List Row->Prop} {E:θ->Ω->List Row->Prop}
theorem W.en {c:Operand} {a e:Code} {v:Bool} (ζ:aO env c=.z (.bool v)) (J:v=true->W P m nt (.code a::k) env σ Z E) (γ:v=false->W P m nt (.code e::k) env σ Z E):W P m nt (.code (.cond c a e)::k) env σ Z E:=by
 refine .cond ζ ?_;cases v with
 | true=>exact J rfl
 | false=>exact γ rfl
theorem al {c:Operand} {a e:Code} (ζ:aO env c=.z (.bool true)) (h:W P m nt (.code a::k) env σ Z E):W P m nt (.code (.cond c a e)::k) env σ Z E:=.cond ζ h
theorem aj {c:Operand} {a e:Code} (ζ:aO env c=.z (.bool false)) (h:W P m nt (.code e::k) env σ Z E):W P m nt (.code (.cond c a e)::k) env σ Z E:=.cond ζ h
theorem ak.body {F:θ->List Row->Prop} {T:bd} (Θ:bT P T) {g:FuncId} {fn:Func} {sb:Code} (bY:P.funcs[g]?=some fn) (nf:fn.body=some sb) (vG:(fn.name == "runtime.NumGoroutine")=false) {args:List θ} {K:θ->List Row->Prop} {rs:List ResultVar} (Wj:fn.ntmps=nt) (hm:σ.length=m) (jU:fn.results.toList=rs) (hlen:args.length<=nt)
  (h:W P m nt [.code sb] (entry 0 args) σ (Ends T rs K) (λa _ s=>F a s)):ak P g args σ K F:=by
 subst Wj;subst hm;subst jU;exact .VH Θ bY nf vG hlen h
end
abbrev R (i:Int):θ:=.z (.int .i64 i)
abbrev bA (b:Bool):θ:=.z (.bool b)
abbrev bf {α:Type} (enc:α->θ) (k:Nat) (l:List α):θ:=.sl false k (l.map enc)
abbrev nj (b:ByteArray):θ:=.z (.string b)
@[simp] theorem hδ (x y:Int):(x==y)=decide (x=y):=by rw[Bool.eq_iff_iff];simp
@[simp] theorem hε (a b:Nat):((a:Int)=(b:Int))↔a=b:=by omega
attribute [simp] VI VJ HI VK VL fJ VM lE
attribute [congr] Vy VB VC or_congr VS VT
attribute [simp] idx Vw Vx Vz VA q6 M8 VU V0 V1 VV VW VX VY VZ vO mo kp cB.or cB.du c6.holds fA h2 ca a5 aO hy zM entry pQ so xZ Dw sg xJ xR xO CZ xP C1 C0 vX qU θ.sh θ.a8 θ.lB Ao tK il.agg CP vz CR vA CU vB
 Df Dg Dd De pL CN CO Dh CW si Db pJ zU zV C4 sr DC tR z6 z7 Dx Dz Dy vN DF DD vM aeqv jD mm vJ hL nU nW Ht Dl z3 Dn Dp Ds Dv Dt zW C6 C5 θ.cells oO q7 z' Ends vP x1
@[simp] theorem hζ {k:IntKind}:ly (.int k)=false:=rfl
@[simp] theorem hη:ly .bool=false:=rfl
@[simp] theorem hθ:ly .string=false:=rfl
@[simp] theorem hι {e:TypeId}:ly (.slice e)=false:=rfl
@[simp] theorem hκ {a b:TypeId}:ly (.map a b)=false:=rfl
@[simp] theorem hμ {a:TypeId}:ly (.pointer a)=false:=rfl
@[simp] theorem hν {n:Nat} {a:TypeId}:ly (.array n a)=true:=rfl
theorem Wk {P : Nat -> Prop} (n : Nat) (h : n < 256) (dF : ∀ m, m < 256 -> P m) : P n := dF n h
section
variable {m nt l : Nat} {a c : Code} {k : List Item} {env : Ω} {σ : List Row} {Z : List Item -> Ω -> List Row -> Prop} {E : θ -> Ω -> List Row -> Prop}
class x6 [bn] (k : List Item) (ab : outParam (List Item)) : Prop where
  h : ∀ {P : Program} {m nt : Nat} {env : Ω} {σ : List Row} {Z : List Item -> Ω -> List Row -> Prop} {E : θ -> Ω -> List Row -> Prop}, W P m nt ab env σ Z E -> W P m nt k env σ Z E
instance : x6 (.code (.seq a c) :: k) (.code a :: .code c :: k) := ⟨.seq⟩
instance : x6 (.code (.block l c) :: k) (.code c :: .inBlock l :: k) := ⟨.block⟩
instance : x6 (.inBlock l :: k) k := ⟨.inBlock⟩
instance : x6 (.code .skip :: k) k := ⟨.skip⟩
theorem κ {P : Program} {ab : List Item} [x6 k ab] (h : W P m nt ab env σ Z E) : W P m nt k env σ Z E := x6.h h
theorem aZ {P : Program} (h : W P m nt (.code a :: .code c :: k) env σ Z E) : W P m nt (.code (.seq a c) :: k) env σ Z E := .seq h
theorem wb {P : Program} (h : W P m nt (.code c :: .inBlock l :: k) env σ Z E) : W P m nt (.code (.block l c) :: k) env σ Z E := .block h
theorem a3 {P : Program} (h : W P m nt k env σ Z E) : W P m nt (.inBlock l :: k) env σ Z E := .inBlock h
theorem wd {P : Program} (h : W P m nt k env σ Z E) : W P m nt (.code .skip :: k) env σ Z E := .skip h
theorem ξ {id : Nat} {ops : Array Oper} (h : ∀ η : Ω -> List Row -> Prop, (∀ env σ, W Tryz.prog m nt k env σ Z E -> η env σ) -> run Tryz.prog bk [] nt ops (idx ops.size []) env σ η E) : W Tryz.prog m nt (.code (.region id ops false) :: k) env σ Z E := c7 Κ h
end
end Go.TL
