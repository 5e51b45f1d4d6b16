import Derived.KernelRfl
import Derived.Test.YtlabjopijpkiaaaGreatProg
import Derived.Test.YtlabjopijpkiaaaGreatVAK
set_option maxHeartbeats 16000000
set_option maxRecDepth 20000
set_option linter.unusedSectionVars false
set_option linter.unusedSimpArgs false
set_option linter.unusedVariables false
namespace Go.TL
open Go.Proofs
variable [bn]
def HD (P:Program) (t:TypeId):Option (List (TypeDesc×Nat)):=
 if P.eqGuardType P.depth t=false then match P.underlying t with
  | some (.struct dh)=>if P.stoodInHeld t=false/\dh.toList.map (·.offset)=List.range dh.toList.length/\(dh.toList.all λf=>f.name != "_" && match P.underlying f.type with|some d=>ja d|none=>false)=true then some (dh.toList.map λf=>((P.underlying f.type).getD .invalid,f.offset)) else none
  | some (.array n e)=>match P.underlying e,P.info? e with
   | some d,some f=>if ja d=true/\f.size=1 then some ((List.range n).map λi=>(d,i)) else none
   | _,_=>none
  | _=>none
 else none
theorem VT (P:Program) (t:TypeId):GF P t (HD P t):=by
 unfold HD;split
 ·rename_i Ξ;split
  ·rename_i dh hu;split
   ·rename_i δ;refine⟨Ξ,by rw[List.map_map,List.length_map];exact δ.2.1,.inl ⟨dh,hu,δ.1,rfl,λf Υ=>?_⟩⟩;have:=List.all_eq_true.1 δ.2.2 f Υ;simp only[Bool.and_eq_true,bne_iff_ne,ne_eq] at this;refine⟨this.1,?_⟩;cases hd:P.underlying f.type with
    | none=>rw[hd] at this;simp at this
    | some d=>rw[hd] at this;exact⟨d,rfl,this.2⟩
   ·trivial
  ·rename_i n e hu;split
   ·rename_i d f hd Υ;split
    ·rename_i δ;exact⟨Ξ,by rw[List.map_map,List.length_map,List.length_range];exact(List.map_congr_left λ_ _=>rfl).trans (List.map_id _),.inr ⟨n,e,d,f,hu,hd,δ.1,Υ,δ.2,rfl⟩⟩
    ·trivial
   ·trivial
  ·trivial
 ·trivial
def bb.of (P:Program):bb:=λt=>match P.underlying t,P.info? t with
 | some d,some i=>match i.zero with|some z=>some ⟨i.size,d,z,i.bytes,HD P t⟩|none=>none
 | _,_=>none
theorem bb.DW (P:Program):bV P (bb.of P):=λt i h=>by
 unfold bb.of at h;split at h
 ·rename_i d f hd Υ;split at h
  ·rename_i z Τ;cases h;exact⟨⟨hd,VT P t⟩,f,Υ,rfl,Τ,rfl⟩
  ·cases h
 ·cases h
noncomputable def bk:bb:=bb.of Tryz.prog
theorem Ρ:bV Tryz.prog bk:=bb.DW _
def vV (pl:List (Nat×Nat)) (zero:Value) (a':θ->Bool) (parts:List (Nat×θ)):cK:=
 match q3 (λx=>(pl[x]?).map λp=>(0,p.1,p.2)) (hE zero).cells.length a' [hE zero] parts with
 | some [e]=>.ok (.a5 e.cells)
 | _=>.bad
def z8 (es:Nat) (zero:Value) (a':θ->Bool) (parts:List (Nat×θ)):cK:=
 match q3 (λx=>some (0,x*es,es)) (hE zero).cells.length a' [hE zero] parts with
 | some [e]=>.ok (.a5 e.cells)
 | _=>.bad
theorem mixed:Tryz.prog.follows .mixedOrders=true:=by kernel_rfl
section
variable {P:Program} {m nt:Nat} {k:List Item} {env:Ω} {σ:List Row} {Z:List Item->Ω->List Row->Prop} {E:θ->Ω->List Row->Prop}
theorem W.iter {xP:Type} {c:Code} (Inv:xP->Prop) (z9:xP->Ω) (DX:xP->List Row) (HE:xP->Nat) (i0:xP) (aj:Inv i0) (l7:σ=DX i0) (cT:∀p∈z9 i0,a9 env p.1=p.2)
  (step:∀i,Inv i->(∀eO,Inv eO->HE eO<HE i->W P m nt (.inLoop c::k) (z9 eO) (DX eO) Z E)->W P m nt (.code c::.inLoop c::k) (z9 i) (DX i) Z E):W P m nt (.code (.loop c)::k) env σ Z E:=by
 refine .loop (.forget (z9 i0) cT ?_);rw[l7];have key:∀(n:Nat) (i:xP),HE i<n->Inv i->W P m nt (.code c::.inLoop c::k) (z9 i) (DX i) Z E:=by
  intro n
  induction n with
  | zero=>intro i h;omega
  | succ n Β=>intro i hi dO;exact step i dO λeO VU aP=>.inLoop (Β eO R VU)
 exact key _ i0 (Nat.lt_succ_self _) aj
end
section
variable {P:Program} {m nt:Nat} {k:List Item} {env:Ω} {σ:List Row} {Z:List Item->Ω->List Row->Prop} {E:θ->Ω->List Row->Prop}
theorem W.eU {c:Operand} {a e:Code} {v:Bool} (δ:aU env c=.z (.bool v)) (J:v=true->W P m nt (.code a::k) env σ Z E) (U:v=false->W P m nt (.code e::k) env σ Z E):W P m nt (.code (.cond c a e)::k) env σ Z E:=by
 refine .cond δ ?_;cases v with
 | true=>exact J rfl
 | false=>exact U rfl
theorem ai {c:Operand} {a e:Code} (δ:aU env c=.z (.bool true)) (h:W P m nt (.code a::k) env σ Z E):W P m nt (.code (.cond c a e)::k) env σ Z E:=.cond δ h
theorem aa {c:Operand} {a e:Code} (δ:aU env c=.z (.bool false)) (h:W P m nt (.code e::k) env σ Z E):W P m nt (.code (.cond c a e)::k) env σ Z E:=.cond δ h
theorem ae.body {F:θ->List Row->Prop} {T:bb} (Κ:bV P T) {g:FuncId} {fn:Func} {sg:Code} (bM:P.funcs[g]?=some fn) (nB:fn.body=some sg) (vB:(fn.name == "runtime.NumGoroutine")=false) {args:List θ} {K:θ->List Row->Prop} {rs:List ResultVar} (VV:fn.ntmps=nt) (hm:σ.length=m) (kl:fn.results.toList=rs) (hlen:args.length<=nt)
  (h:W P m nt [.code sg] (entry 0 args) σ (Ends T rs K) (λa _ s=>F a s)):ae P g args σ K F:=by
 subst VV;subst hm;subst kl;exact .Vo Κ bM nB vB hlen h
end
abbrev I (i:Int):θ:=.z (.int .i64 i)
abbrev a6 (b:Bool):θ:=.z (.bool b)
abbrev bO {α:Type} (enc:α->θ) (k:Nat) (l:List α):θ:=.sl false k (l.map enc)
abbrev mP (b:ByteArray):θ:=.z (.string b)
@[simp] theorem gΤ (x y:Int):(x==y)=decide (x=y):=by rw[Bool.eq_iff_iff];simp
@[simp] theorem gΥ (a b:Nat):((a:Int)=(b:Int))↔a=b:=R
attribute [simp] Vp Vq MN Vr Vs iL Vt l6
attribute [congr] Vf Vi Vj or_congr Vz VA
attribute [simp] idx Vd Ve Vg Vh p5 MJ VB VH VI VC VD VE VF VG vL mK kM cK.or cK.dE df.holds fP ik cj a9 aU hE zx entry p1 sz xH Df so xo xy xv CI xw CK CJ vV q3 θ.sr θ.a' θ.lZ z8 tK iH.agg Cz vv CB vw CD vx
 C1 C2 CZ C0 pV Cx Cy C3 CF ss CX pT zE zF CN sA Dj tS zQ zR Dg Di Dh vJ Dl Dk vI aeqv j0 mJ vE hX n' ob Hb C7 zM C9 C' Dc De Dd zG CP CO θ.cells p6 sB Dt Ends vM xJ
@[simp] theorem gΦ {k:IntKind}:lW (.int k)=false:=rfl
@[simp] theorem gΧ:lW .bool=false:=rfl
@[simp] theorem gΨ:lW .string=false:=rfl
@[simp] theorem gΩ {e:TypeId}:lW (.slice e)=false:=rfl
@[simp] theorem hα {a b:TypeId}:lW (.map a b)=false:=rfl
@[simp] theorem hβ {a:TypeId}:lW (.pointer a)=false:=rfl
@[simp] theorem hγ {n:Nat} {a:TypeId}:lW (.array n a)=true:=rfl
theorem VW {P:Nat->Prop} (n:Nat) (h:n<256) (cB:∀m,m<256->P m):P n:=cB n h
section
variable {m nt l:Nat} {a c:Code} {k:List Item} {env:Ω} {σ:List Row} {Z:List Item->Ω->List Row->Prop} {E:θ->Ω->List Row->Prop}
class xQ [bn] (k:List Item) (ag:outParam (List Item)):Prop where
 h:∀{P:Program} {m nt:Nat} {env:Ω} {σ:List Row} {Z:List Item->Ω->List Row->Prop} {E:θ->Ω->List Row->Prop},W P m nt ag env σ Z E->W P m nt k env σ Z E
instance:xQ (.code (.seq a c)::k) (.code a::.code c::k):=⟨.seq⟩
instance:xQ (.code (.block l c)::k) (.code c::.inBlock l::k):=⟨.block⟩
instance:xQ (.inBlock l::k) k:=⟨.inBlock⟩
instance:xQ (.code .skip::k) k:=⟨.skip⟩
theorem ad {P:Program} {ag:List Item} [xQ k ag] (h:W P m nt ag env σ Z E):W P m nt k env σ Z E:=xQ.h h
theorem a3 {P:Program} (h:W P m nt (.code a::.code c::k) env σ Z E):W P m nt (.code (.seq a c)::k) env σ Z E:=.seq h
theorem wb {P:Program} (h:W P m nt (.code c::.inBlock l::k) env σ Z E):W P m nt (.code (.block l c)::k) env σ Z E:=.block h
theorem a4 {P:Program} (h:W P m nt k env σ Z E):W P m nt (.inBlock l::k) env σ Z E:=.inBlock h
theorem wd {P:Program} (h:W P m nt k env σ Z E):W P m nt (.code .skip::k) env σ Z E:=.skip h
theorem bs {id:Nat} {ops:Array Oper} (h:∀Ε:Ω->List Row->Prop,(∀env σ,W Tryz.prog m nt k env σ Z E->Ε env σ)->run Tryz.prog bk [] nt ops (idx ops.size []) env σ Ε E):W Tryz.prog m nt (.code (.region id ops false)::k) env σ Z E:=dM Ρ h
end
theorem W.rt {P:Program} {T:bb} {rs:List ResultVar} {K:θ->List Row->Prop} {m nt:Nat} {k:List Item} {env:Ω} {σ:List Row} {E:θ->Ω->List Row->Prop} {a:θ} {p:Prop} {s:List Row} (h:p) (e:p6 T rs env σ=some a:=by exact rfl) (ς:K a σ=(p/\s=s):=by exact rfl):W P m nt (.code .ret::k) env σ (Ends T rs K) E:=.ret ⟨a,e,ς▸⟨h,rfl⟩⟩
end Go.TL
namespace Go.TL
open Go.Proofs
theorem υ {a b:Prop} (x:a) (y:b):a/\b:=⟨x,y⟩
theorem tW {p q:Prop} (k:q) (h:q->p:=by intro k;(repeat (first|apply ad|apply a3|apply wb|apply a4|apply wd));exact k):p:=h k
theorem Η {p q:Prop} (k:q) (h:q->p:=by intro k;(repeat (first|apply ad|apply a3|apply wb|apply a4|apply wd|(refine bs λΕ ζ=>?_;simp;(repeat (rw[Ο];simp));apply ζ)));exact k):p:=h k
theorem aB {p f:Prop} {q:f->Prop} (a:f) (k:q a) (h:∀a,q a->p:=by intro a1 k;(repeat (first|apply ad|apply a3|apply wb|apply a4|apply wd|(refine bs λΕ ζ=>?_;simp;(repeat (rw[Ο];simp[a1]));apply ζ)));exact k):p:=h a k
theorem mQ {p q:Prop} (k:q) (h:q->p:=by intro k;refine bs λΕ ζ=>?_;simp;(repeat (rw[Ο];simp));apply ζ;exact k):p:=h k
theorem nG {p f:Prop} {q:f->Prop} (a:f) (k:q a) (h:∀a,q a->p:=by intro a1 k;refine bs λΕ ζ=>?_;simp;(repeat (rw[Ο];simp[a1]));apply ζ;exact k):p:=h a k
theorem bl {p:Prop} {H:(Ω->List Row->Prop)->Prop} {q:∀K,H K->Prop} (k:∀K h,q K h) (h:(∀K h,q K h)->p:=by intro k;(repeat (first|apply ad|apply a3|apply wb|apply a4|apply wd));refine bs λΕ ζ=>?_;simp;(repeat (rw[Ο];simp));exact k Ε ζ):p:=h k
theorem hI {p f:Prop} {H:(Ω->List Row->Prop)->Prop} {q:f->∀K,H K->Prop} (a:f) (k:∀K h,q a K h) (h:∀a,(∀K h,q a K h)->p:=by intro a1 k;(repeat (first|apply ad|apply a3|apply wb|apply a4|apply wd));refine bs λΕ ζ=>?_;simp;(repeat (rw[Ο];simp[a1]));exact k Ε ζ):p:=h a k
theorem bD {p q:Prop} (k:q) (h:q->p:=by intro k;simp;(repeat (rw[Ο];simp));exact k):p:=h k
theorem gW {p f:Prop} {q:f->Prop} (a:f) (k:q a) (h:∀a,q a->p:=by intro a1 k;simp[a1];(repeat (rw[Ο];simp[a1]));exact k):p:=h a k
theorem p7 {p q:Prop} (k:q) (h:q->p:=by intro k;simp;(repeat (rw[c7];simp));(try rw[c6]);exact k):p:=h k
theorem gq {p f:Prop} {q:f->Prop} (a:f) (k:q a) (h:∀a,q a->p:=by intro a1 k;simp[a1];(repeat (rw[c7];simp[a1]));(try rw[c6]);exact k):p:=h a k
theorem er {a b:Prop} (k:b) (h:a:=by exact iN (by kernel_rfl)):a/\b:=⟨h,k⟩
theorem tX {p q:Prop} (k:q) (h:q->p:=by intro k;refine W.draw (A:=[]) Ρ mixed λΕ ζ=>?_;simp;(repeat (rw[c7];simp));(try rw[c6]);refine er (ζ _ _ ?_);exact k):p:=h k
theorem dF {p f:Prop} {q:f->Prop} (a:f) (k:q a) (h:∀a,q a->p:=by intro a1 k;refine W.draw (A:=[]) Ρ mixed λΕ ζ=>?_;simp;(repeat (rw[c7];simp[a1]));(try rw[c6]);refine er (ζ _ _ ?_);exact k):p:=h a k
end Go.TL
