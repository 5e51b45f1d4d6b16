import Derived.KernelRfl
import Derived.Test.YtlabjopijpkiaaaGreatProg
import Derived.Test.YtlabjopijpkiaaaGreatQAK
set_option maxHeartbeats 16000000
set_option maxRecDepth 20000
set_option linter.unusedSectionVars false
set_option linter.unusedSimpArgs false
set_option linter.unusedVariables false
namespace Go.TL
open Go.Proofs
variable [bh]
def Fv (P:Program) (t:TypeId):Option (List (TypeDesc×Nat)):=
 if P.eqGuardType P.depth t=false then match P.underlying t with
  | some (.struct cP)=>if P.stoodInHeld t=false/\cP.toList.map (·.offset)=List.range cP.toList.length/\(cP.toList.all λf=>f.name != "_" && match P.underlying f.type with|some d=>h9 d|none=>false)=true then some (cP.toList.map λf=>((P.underlying f.type).getD .invalid,f.offset)) else none
  | some (.array n e)=>match P.underlying e,P.info? e with
   | some d,some f=>if h9 d=true/\f.size=1 then some ((List.range n).map λi=>(d,i)) else none
   | _,_=>none
  | _=>none
 else none
theorem SO (P:Program) (t:TypeId):Ep P t (Fv P t):=by
 unfold Fv;split
 ·rename_i Ο;split
  ·rename_i cP hu;split
   ·rename_i η;refine⟨Ο,by rw[List.map_map,List.length_map];exact η.2.1,.inl ⟨cP,hu,η.1,rfl,λf ab=>?_⟩⟩;have:=List.all_eq_true.1 η.2.2 f ab;simp only[Bool.and_eq_true,bne_iff_ne,ne_eq] at this;refine⟨this.1,?_⟩;cases hd:P.underlying f.type with
    | none=>rw[hd] at this;simp at this
    | some d=>rw[hd] at this;exact⟨d,rfl,this.2⟩
   ·trivial
  ·rename_i n e hu;split
   ·rename_i d f hd ab;split
    ·rename_i η;exact⟨Ο,by rw[List.map_map,List.length_map,List.length_range];exact(List.map_congr_left λ_ _=>rfl).trans (List.map_id _),.inr ⟨n,e,d,f,hu,hd,η.1,ab,η.2,rfl⟩⟩
    ·trivial
   ·trivial
  ·trivial
 ·trivial
def aZ.of (P:Program):aZ:=λt=>match P.underlying t,P.info? t with
 | some d,some i=>match i.zero with|some z=>some ⟨i.size,d,z,i.bytes,Fv P t⟩|none=>none
 | _,_=>none
theorem aZ.BK (P:Program):bE P (aZ.of P):=λt i h=>by
 unfold aZ.of at h;split at h
 ·rename_i d f hd ab;split at h
  ·rename_i z Ν;cases h;exact⟨⟨hd,SO P t⟩,f,ab,rfl,Ν,rfl⟩
  ·cases h
 ·cases h
noncomputable def a4:aZ:=aZ.of Tryz.prog
theorem Μ:bE Tryz.prog a4:=aZ.BK _
def tN (pl:List (Nat×Nat)) (zero:Value) (aU:ζ->Bool) (parts:List (Nat×ζ)):cd:=
 match ps (λx=>(pl[x]?).map λp=>(0,p.1,p.2)) (gF zero).cells.length aU [gF zero] parts with
 | some [e]=>.ok (.aR e.cells)
 | _=>.bad
def yf (es:Nat) (zero:Value) (aU:ζ->Bool) (parts:List (Nat×ζ)):cd:=
 match ps (λx=>some (0,x*es,es)) (gF zero).cells.length aU [gF zero] parts with
 | some [e]=>.ok (.aR e.cells)
 | _=>.bad
theorem mixed:Tryz.prog.follows .mixedOrders=true:=by kernel_rfl
section
variable {P:Program} {m nt:Nat} {k:List Item} {env:Φ} {σ:List Row} {Z:List Item->Φ->List Row->Prop} {E:ζ->Φ->List Row->Prop}
theorem W.iter {vz:Type} {c:Code} (Inv:vz->Prop) (yg:vz->Φ) (BL:vz->List Row) (Fw:vz->Nat) (i0:vz) (af:Inv i0) (kC:σ=BL i0) (cq:∀p∈yg i0,aW env p.1=p.2)
  (step:∀i,Inv i->(∀eg,Inv eg->Fw eg<Fw i->W P m nt (.inLoop c::k) (yg eg) (BL eg) Z E)->W P m nt (.code c::.inLoop c::k) (yg i) (BL i) Z E):W P m nt (.code (.loop c)::k) env σ Z E:=by
 refine .loop (.forget (yg i0) cq ?_);rw[kC];have key:∀(n:Nat) (i:vz),Fw i<n->Inv i->W P m nt (.code c::.inLoop c::k) (yg i) (BL i) Z E:=by
  intro n
  induction n with
  | zero=>intro i h;omega
  | succ n Γ=>intro i hi n6;exact step i n6 λeg SP ar=>.inLoop (Γ eg (by omega) SP)
 exact key _ i0 (Nat.lt_succ_self _) af
end
section
variable {P:Program} {m nt:Nat} {k:List Item} {env:Φ} {σ:List Row} {Z:List Item->Φ->List Row->Prop} {E:ζ->Φ->List Row->Prop}
theorem W.dR {c:Operand} {a e:Code} {v:Bool} (η:aG env c=.z (.bool v)) (J:v=true->W P m nt (.code a::k) env σ Z E) (R:v=false->W P m nt (.code e::k) env σ Z E):W P m nt (.code (.cond c a e)::k) env σ Z E:=by
 refine .cond η ?_;cases v with
 | true=>exact J rfl
 | false=>exact R rfl
theorem ax {c:Operand} {a e:Code} (η:aG env c=.z (.bool true)) (h:W P m nt (.code a::k) env σ Z E):W P m nt (.code (.cond c a e)::k) env σ Z E:=.cond η h
theorem au {c:Operand} {a e:Code} (η:aG env c=.z (.bool false)) (h:W P m nt (.code e::k) env σ Z E):W P m nt (.code (.cond c a e)::k) env σ Z E:=.cond η h
theorem aC.body {F:ζ->List Row->Prop} {T:aZ} (Ζ:bE P T) {g:FuncId} {fn:Func} {qz:Code} (cA:P.funcs[g]?=some fn) (l7:fn.body=some qz) (tp:(fn.name == "runtime.NumGoroutine")=false) {args:List ζ} {K:ζ->List Row->Prop} {rs:List ResultVar} (SQ:fn.ntmps=nt) (hm:σ.length=m) (iV:fn.results.toList=rs) (hlen:args.length<=nt)
  (h:W P m nt [.code qz] (entry 0 args) σ (Ends T rs K) (λa _ s=>F a s)):aC P g args σ K F:=by
 subst SQ;subst hm;subst iV;exact .Si Ζ cA l7 tp hlen h
end
abbrev δ (i:Int):ζ:=.z (.int .i64 i)
abbrev bJ (b:Bool):ζ:=.z (.bool b)
abbrev bC {α:Type} (enc:α->ζ) (k:Nat) (l:List α):ζ:=.sl false k (l.map enc)
abbrev ln (b:ByteArray):ζ:=.z (.string b)
@[simp] theorem aΨ (x y:Int):(x==y)=decide (x=y):=by rw[Bool.eq_iff_iff];simp
@[simp] theorem aΩ (a b:Nat):((a:Int)=(b:Int))↔a=b:=by omega
attribute [simp] Sk Sl E9 Sm Sn gH So iH
attribute [congr] R9 Sb Sc or_congr Su Sv
attribute [simp] idx R7 R8 R' Sa qP JX Sw SC SD Sx Sy Sz SA SB tC lg jv cd.or cd.dd cO.holds e7 g4 bX aW aG gF xF entry oo qN vq Ba qF u' vj ve AE vf AG AF tN ps ζ.qH ζ.aU ζ.ky yf rO hq.agg Au ti Aw tj Ay tk
 AV AW AT AU oh As At AX AA qI AR oe xM xN AJ qO Be rV xZ x0 Bb Bd Bc tA Bg Bf tz aeqv iF lf tu gS mF mH EU A2 xU A4 A5 A8 A' A9 xO AL AK ζ.cells pD qQ Bo Ends tE vu
@[simp] theorem bα {k:IntKind}:jO (.int k)=false:=rfl
@[simp] theorem bβ:jO .bool=false:=rfl
@[simp] theorem bγ:jO .string=false:=rfl
@[simp] theorem bδ {e:TypeId}:jO (.slice e)=false:=rfl
@[simp] theorem bε {a b:TypeId}:jO (.map a b)=false:=rfl
@[simp] theorem bζ {a:TypeId}:jO (.pointer a)=false:=rfl
@[simp] theorem bη {n:Nat} {a:TypeId}:jO (.array n a)=true:=rfl
section
variable {m nt l : Nat} {a c : Code} {k : List Item} {env : Φ} {σ : List Row} {Z : List Item -> Φ -> List Row -> Prop} {E : ζ -> Φ -> List Row -> Prop}
class vA [bh] (k : List Item) (Χ : outParam (List Item)) : Prop where
  h : ∀ {P : Program} {m nt : Nat} {env : Φ} {σ : List Row} {Z : List Item -> Φ -> List Row -> Prop} {E : ζ -> Φ -> List Row -> Prop}, W P m nt Χ env σ Z E -> W P m nt k env σ Z E
instance : vA (.code (.seq a c) :: k) (.code a :: .code c :: k) := ⟨.seq⟩
instance : vA (.code (.block l c) :: k) (.code c :: .inBlock l :: k) := ⟨.block⟩
instance : vA (.inBlock l :: k) k := ⟨.inBlock⟩
instance : vA (.code .skip :: k) k := ⟨.skip⟩
theorem μ {P : Program} {Χ : List Item} [vA k Χ] (h : W P m nt Χ env σ Z E) : W P m nt k env σ Z E := vA.h h
theorem aO {P : Program} (h : W P m nt (.code a :: .code c :: k) env σ Z E) : W P m nt (.code (.seq a c) :: k) env σ Z E := .seq h
theorem aP {P : Program} (h : W P m nt (.code c :: .inBlock l :: k) env σ Z E) : W P m nt (.code (.block l c) :: k) env σ Z E := .block h
theorem aQ {P : Program} (h : W P m nt k env σ Z E) : W P m nt (.inBlock l :: k) env σ Z E := .inBlock h
theorem wd {P : Program} (h : W P m nt k env σ Z E) : W P m nt (.code .skip :: k) env σ Z E := .skip h
theorem ξ {id : Nat} {ops : Array Oper} (h : ∀ θ : Φ -> List Row -> Prop, (∀ env σ, W Tryz.prog m nt k env σ Z E -> θ env σ) -> run Tryz.prog a4 [] nt ops (idx ops.size []) env σ θ E) : W Tryz.prog m nt (.code (.region id ops false) :: k) env σ Z E := dy Μ h
end
end Go.TL
