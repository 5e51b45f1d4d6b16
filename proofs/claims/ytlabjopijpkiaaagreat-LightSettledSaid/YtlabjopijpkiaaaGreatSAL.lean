import Derived.KernelRfl
import Derived.Test.YtlabjopijpkiaaaGreatProg
import Derived.Test.YtlabjopijpkiaaaGreatSAK
set_option maxHeartbeats 16000000
set_option maxRecDepth 20000
set_option linter.unusedSectionVars false
set_option linter.unusedSimpArgs false
set_option linter.unusedVariables false
namespace Go.TL
open Go.Conc
variable [bm]
def cG (a b:θ):Prop:=∀(S:aB) (B:aR) (σ:List Row) (v:Value),ao S B σ a v->ao S B σ b v
def aK (l m:List θ):Prop:=l.length=m.length/\∀(i:Nat) (a b:θ),l[i]?=some a->m[i]?=some b->cG a b
theorem cG.refl (a:θ):cG a a:=λ_ _ _ _ h=>h
theorem cG.of {a b:θ} (h:a=b):cG a b:=h▸.refl a
theorem cG.trans {a b c:θ} (h:cG a b) (k:cG b c):cG a c:=λS B σ v x=>k S B σ v (h S B σ v x)
theorem cG.cg (a:θ):cG a .cg:=λ_ _ _ v _=>.cg v
theorem aK.refl (l:List θ):aK l l:=⟨rfl,λi a b h k=>by rw[h] at k;cases k;exact .refl a⟩
theorem aK.nil:aK [] []:=.refl []
theorem aK.cons {a b:θ} {l m:List θ} (h:cG a b) (k:aK l m):aK (a::l) (b::m):=⟨by simp[k.1],λi x y U Ξ=>by
 cases i with
 | zero=>simp at U Ξ;subst U;subst Ξ;exact h
 | succ i=>exact k.2 i x y (by simpa using U) (by simpa using Ξ)⟩
theorem cG.aS {l m:List θ} (h:aK l m):cG (.aS l) (.aS m):=λS B σ v x=>by
 cases x with
 | aS vs J γ=>
  refine .aS vs (h.1.symm.trans J) λi b v hi hv=>?_;have aD:i<l.length:=by rw[h.1];exact(b7.1 hi).1
  have ξ:=aW aD;exact h.2 i _ b ξ hi S B σ v (γ i _ v ξ hv)
theorem cG.bn {l m:List θ} (h:aK l m):cG (.bn l) (.bn m):=λS B σ v x=>by
 cases x with
 | bn vs J γ=>
  refine .bn vs (h.1.symm.trans J) λi b v hi hv=>?_;have aD:i<l.length:=by rw[h.1];exact(b7.1 hi).1
  have ξ:=aW aD;exact h.2 i _ b ξ hi S B σ v (γ i _ v ξ hv)
theorem cG.sl {e:Bool} {k:Nat} {l m:List θ} (hlen:l.length=m.length) (h:∀(i:Nat) (a b:θ),l[i]?=some a->m[i]?=some b->aK a.cells b.cells):cG (.sl e k l) (.sl false k m):=λS B σ v x=>by
 have up:∀(i:Nat) (b:θ),m[i]?=some b->∃a,l[i]?=some a/\aK a.cells b.cells:=λi b hi=>by
  have aD:i<l.length:=by rw[hlen];exact(b7.1 hi).1
  exact⟨_,aW aD,h i _ b (aW aD) hi⟩
 cases x with
 | iA base cap ζ=>
  have:m=[]:=dp.1 hlen.symm;subst this;exact .iA base cap λx=>by cases x
 | sl b o cap w J γ π Μ aA=>
  rw[hlen];refine .sl b o cap w (λx=>by cases x) (by omega) (λi y hi=>?_) (λi y hi j c ε=>?_) (λi y hi j c ε=>?_)
  ·obtain⟨a,ξ,gL⟩:=up i y hi;rw[<-gL.1];exact π i a ξ
  ·obtain⟨a,ξ,gL⟩:=up i y hi;have aD:j<a.cells.length:=by rw[gL.1];exact(b7.1 ε).1
   exact Μ i a ξ j _ (aW aD)
  ·obtain⟨a,ξ,gL⟩:=up i y hi;have aD:j<a.cells.length:=by rw[gL.1];exact(b7.1 ε).1
   have ζ:=aW aD;exact gL.2 j _ c ζ ε S B σ _ (aA i a ξ j _ ζ)
theorem cG.ex {e:Bool} {k:Nat} {l:List θ}:cG (.sl e k l) (.sl false k l):=.sl rfl λi a b J γ=>by rw[J] at γ;cases γ;exact .refl _
theorem cG.nil {e:Bool} {k ab:Nat}:cG (.sl e k []) (.sl false ab []):=λS B σ v x=>by
 have g:∀(l:List θ),l=[]->ao S B σ (.sl e k l) v->ao S B σ (.sl false ab []) v:=λl ω x=>by
  cases x with
  | iA base cap ζ=>exact .iA base cap λx=>by cases x
  | sl b o cap w J γ π Μ aA=>subst ω;exact .iA _ cap λx=>by cases x
 exact g [] rfl x
theorem cG.map {α:Type} {f g:α->θ} {e:Bool} {k:Nat} {l:List α} (h:∀x∈l,aK (f x).cells (g x).cells):cG (.sl e k (l.map f)) (.sl false k (l.map g)):=.sl (by simp) λi a b J γ=>by
 rw[List.getElem?_map] at J γ;cases U:l[i]? with
 | none=>rw[U] at J;cases J
 | some x=>rw[U] at J γ;cases J;cases γ;exact h x (ck U)
theorem aK.one {a b:θ} (h:cG a b) (ξ:a.cells=[a]) (hb:b.cells=[b]):aK a.cells b.cells:=by rw[ξ,hb];exact .cons h .nil
section
variable {P:Program} {σ:List Row}
theorem fy.xO {S:aB} {B:aR} {l m:List θ} {vs:Array Value} (h:aK l m) (k:fy S B σ l vs):fy S B σ m vs:=⟨h.1.symm.trans k.1,λi b v hi hv=>by
 have aD:i<l.length:=by rw[h.1];exact(b7.1 hi).1
 have ξ:=aW aD;exact h.2 i _ b ξ hi S B σ v (k.2 i _ v ξ hv)⟩
theorem ak.kX {g:FuncId} {args gk:List θ} {K K' E:θ->List Row->Prop} (h:ak P g args σ K E) (ξ:aK gk args) (I:∀a s,K a s->∃b,cG a b/\K' b s):ak P g gk σ K' E:=
 ⟨h.1,λQ mn x c rest S B H vs U Β hv hb=>h.2 Q mn x c rest S B H vs U Β (hv.xO ξ) ⟨λa σ' ax B' H' v χ he ω iY μ=>by
  obtain⟨b,J,γ⟩:=I a σ' χ;exact hb.ret b σ' ax B' H' v γ he ω iY (J ax B' σ' v μ),hb.xS⟩⟩
def ay (P:Program) (g:FuncId) (args:List θ) (r:θ):Prop:=ak P g args [] (λa s=>cG a r/\s=[]) (λ_ _=>False)
theorem ay.ct {g:FuncId} {args gk:List θ} {r:θ} (h:ay P g args r) (ξ:aK gk args):z0 P g gk r:=ak.kX h ξ λa s ⟨J,γ⟩=>⟨r,J,rfl,γ⟩
theorem ay.c {g:FuncId} {args gk:List θ} {r:θ} {K E:θ->List Row->Prop} (h:ay P g args r) (ξ:aK gk args) (hb:∀a∈gk,au 0 a) (μ:au 0 r) (I:K r σ):hG P (.fn (.func g) [] []) gk σ K E:=
 z0.call (first:=[]) (captured:=[]) (by simpa using h.ct ξ) (by simpa using hb) μ I
theorem ay.p {g:FuncId} {args gk:List θ} {r:θ} (h:ay P g args r) (ξ:aK gk args) (hb:∀a∈gk,au 0 a) (μ:au 0 r):gj P (.fn (.func g) [] []) gk r:=λ_=>h.c ξ hb μ ⟨rfl,rfl⟩
theorem ay.cc {g:FuncId} {args gk first captured:List θ} {r:θ} {K E:θ->List Row->Prop} (h:ay P g args r) (ξ:aK (first++gk++captured) args) (hb:∀a∈first++gk++captured,au 0 a) (μ:au 0 r) (I:K r σ):hG P (.fn (.func g) first captured) gk σ K E:=
 z0.call (h.ct ξ) hb μ I
end
theorem ed.own {h id n k:Nat} {σ:List Row} {t:TypeId} {l:List θ} (bW:h<=id) (bC:σ[id]?=some (.cells t k l)) (Η:l.length=n) (hb:∀e∈l,∀a∈e.cells,au h a):ed h σ (.ms id n 0 n) (.sl false k l):=by
 refine .ms bW bC Η (by omega) Η (λj e aJ J γ=>?_) (λj e aJ J γ x a b1 π Μ=>?_)
 ·rw[Nat.zero_add] at J;rw[J] at γ;cases γ;rfl
 ·rw[Nat.zero_add] at J;rw[J] at γ;cases γ;rw[π] at Μ;cases Μ;exact .low (hb e (ck J) a (ck π))
def fill {α:Type} (f:α->θ) (z:θ) (l:List α) (i:Nat):List θ:=(l.take i).map f++List.replicate (l.length-i) z
theorem Xw {α:Type} (f:α->θ) (z:θ) (l:List α):fill f z l 0=List.replicate l.length z:=by simp[fill]
theorem Xx {α:Type} (f:α->θ) (z:θ) (l:List α) {i:Nat} (h:l.length<=i):fill f z l i=l.map f:=by simp[fill,List.take_of_length_le h,Nat.sub_eq_zero_of_le h]
theorem Xy {α:Type} (f:α->θ) (z:θ) (l:List α) {i:Nat} (h:i<=l.length):(fill f z l i).length=l.length:=by simp[fill];omega
theorem Xz {α:Type} (f:α->θ) (z:θ) (l:List α) {i:Nat} (h:i<l.length):(fill f z l i)[i]?=some z:=by
 unfold fill;rw[fS (by simp;omega),List.getElem?_replicate];rw[if_pos (by simp;omega)]
theorem XA {α:Type} (f:α->θ) (z:θ) (l:List α) {i:Nat} (h:i<l.length):(fill f z l i).set i (f l[i])=fill f z l (i+1):=by
 unfold fill;have Ζ:l.length-i=(l.length-(i+1))+1:=by omega
 have Ε:((l.take i).map f).length=i:=by simp;omega
 rw[Ζ,List.replicate_succ,List.set_append_right _ _ (by omega),Ε,Nat.sub_self,List.set_cons_zero,List.take_succ_eq_append_getElem h,List.map_append,List.append_assoc];rfl
end Go.TL
namespace Go.TL
open Go.Proofs
variable [bm]
def H9 (P:Program) (t:TypeId):Option (List (TypeDesc×Nat)):=
 if P.eqGuardType P.depth t=false then match P.underlying t with
  | some (.struct c5)=>if P.stoodInHeld t=false/\c5.toList.map (·.offset)=List.range c5.toList.length/\(c5.toList.all λf=>f.name != "_" && match P.underlying f.type with|some d=>iX d|none=>false)=true then some (c5.toList.map λf=>((P.underlying f.type).getD .invalid,f.offset)) else none
  | some (.array n e)=>match P.underlying e,P.info? e with
   | some d,some f=>if iX d=true/\f.size=1 then some ((List.range n).map λi=>(d,i)) else none
   | _,_=>none
  | _=>none
 else none
theorem XB (P:Program) (t:TypeId):Hc P t (H9 P t):=by
 unfold H9;split
 ·rename_i Υ;split
  ·rename_i c5 hu;split
   ·rename_i ζ;refine⟨Υ,by rw[List.map_map,List.length_map];exact ζ.2.1,.inl ⟨c5,hu,ζ.1,rfl,λf Φ=>?_⟩⟩;have:=List.all_eq_true.1 ζ.2.2 f Φ;simp only[Bool.and_eq_true,bne_iff_ne,ne_eq] at this;refine⟨this.1,?_⟩;cases hd:P.underlying f.type with
    | none=>rw[hd] at this;simp at this
    | some d=>rw[hd] at this;exact⟨d,rfl,this.2⟩
   ·trivial
  ·rename_i n e hu;split
   ·rename_i d f hd Φ;split
    ·rename_i ζ;exact⟨Υ,by rw[List.map_map,List.length_map,List.length_range];exact(List.map_congr_left λ_ _=>rfl).trans (List.map_id _),.inr ⟨n,e,d,f,hu,hd,ζ.1,Φ,ζ.2,rfl⟩⟩
    ·trivial
   ·trivial
  ·trivial
 ·trivial
def bd.of (P:Program):bd:=λt=>match P.underlying t,P.info? t with
 | some d,some i=>match i.zero with|some z=>some ⟨i.size,d,z,i.bytes,H9 P t⟩|none=>none
 | _,_=>none
theorem bd.D3 (P:Program):bR P (bd.of P):=λt i h=>by
 unfold bd.of at h;split at h
 ·rename_i d f hd Φ;split at h
  ·rename_i z Θ;cases h;exact⟨⟨hd,XB P t⟩,f,Φ,rfl,Θ,rfl⟩
  ·cases h
 ·cases h
noncomputable def a6:bd:=bd.of Tryz.prog
theorem Ι:bR Tryz.prog a6:=bd.D3 _
def ub (pl:List (Nat×Nat)) (zero:Value) (a7:θ->Bool) (parts:List (Nat×θ)):cw:=
 match q7 (λx=>(pl[x]?).map λp=>(0,p.1,p.2)) (ho zero).cells.length a7 [ho zero] parts with
 | some [e]=>.ok (.aS e.cells)
 | _=>.bad
def Ac (es:Nat) (zero:Value) (a7:θ->Bool) (parts:List (Nat×θ)):cw:=
 match q7 (λx=>some (0,x*es,es)) (ho zero).cells.length a7 [ho zero] parts with
 | some [e]=>.ok (.aS e.cells)
 | _=>.bad
theorem mixed:Tryz.prog.follows .mixedOrders=true:=by kernel_rfl
section
variable {P:Program} {m nt:Nat} {k:List Item} {env:aa} {σ:List Row} {Z:List Item->aa->List Row->Prop} {E:θ->aa->List Row->Prop}
theorem W.iter {ι:Type} {c:Code} (Inv:ι->Prop) (Ad:ι->aa) (D4:ι->List Row) (Ia:ι->Nat) (i0:ι) (ag:Inv i0) (lR:σ=D4 i0) (cD:∀p∈Ad i0,a3 env p.1=p.2)
  (step:∀i,Inv i->(∀ey,Inv ey->Ia ey<Ia i->W P m nt (.inLoop c::k) (Ad ey) (D4 ey) Z E)->W P m nt (.code c::.inLoop c::k) (Ad i) (D4 i) Z E):W P m nt (.code (.loop c)::k) env σ Z E:=by
 refine .loop (.forget (Ad i0) cD ?_);rw[lR];have key:∀(n:Nat) (i:ι),Ia i<n->Inv i->W P m nt (.code c::.inLoop c::k) (Ad i) (D4 i) Z E:=by
  intro n
  induction n with
  | zero=>intro i h;omega
  | succ n Δ=>intro i hi fj;exact step i fj λey XC aD=>.inLoop (Δ ey (by omega) XC)
 exact key _ i0 (Nat.lt_succ_self _) ag
end
section
variable {P:Program} {m nt:Nat} {k:List Item} {env:aa} {σ:List Row} {Z:List Item->aa->List Row->Prop} {E:θ->aa->List Row->Prop}
theorem W.en {c:Operand} {a e:Code} {v:Bool} (ζ:aQ env c=.z (.bool v)) (J:v=true->W P m nt (.code a::k) env σ Z E) (γ:v=false->W P m nt (.code e::k) env σ Z E):W P m nt (.code (.cond c a e)::k) env σ Z E:=by
 refine .cond ζ ?_;cases v with
 | true=>exact J rfl
 | false=>exact γ rfl
theorem aj {c:Operand} {a e:Code} (ζ:aQ env c=.z (.bool true)) (h:W P m nt (.code a::k) env σ Z E):W P m nt (.code (.cond c a e)::k) env σ Z E:=.cond ζ h
theorem ah {c:Operand} {a e:Code} (ζ:aQ env c=.z (.bool false)) (h:W P m nt (.code e::k) env σ Z E):W P m nt (.code (.cond c a e)::k) env σ Z E:=.cond ζ h
theorem ak.body {F:θ->List Row->Prop} {T:bd} (Κ:bR P T) {g:FuncId} {fn:Func} {sn:Code} (cf:P.funcs[g]?=some fn) (nv:fn.body=some sn) (vL:(fn.name == "runtime.NumGoroutine")=false) {args:List θ} {K:θ->List Row->Prop} {rs:List ResultVar} (XD:fn.ntmps=nt) (hm:σ.length=m) (jX:fn.results.toList=rs) (hlen:args.length<=nt)
  (h:W P m nt [.code sn] (entry 0 args) σ (Ends T rs K) (λa _ s=>F a s)):ak P g args σ K F:=by
 subst XD;subst hm;subst jX;exact .W3 Κ cf nv vL hlen h
end
abbrev R (i:Int):θ:=.z (.int .i64 i)
abbrev a4 (b:Bool):θ:=.z (.bool b)
abbrev aP {α:Type} (enc:α->θ) (k:Nat) (l:List α):θ:=.sl false k (l.map enc)
abbrev nA (b:ByteArray):θ:=.z (.string b)
@[simp] theorem jΕ (x y:Int):(x==y)=decide (x=y):=by rw[Bool.eq_iff_iff];simp
@[simp] theorem jΖ (a b:Nat):((a:Int)=(b:Int))↔a=b:=by omega
attribute [simp] W4 W5 NT W6 W7 fZ W8 lP
attribute [congr] WU WX WY or_congr Xc Xd
attribute [simp] idx WS WT WV WW qc NP Xe Xk Xl Xf Xg Xh Xi Xj vV mF kx cw.or cw.dq cZ.holds fz hT ca a3 aQ ho zE entry p' sH xR Dl sy xC xK xH CN xI CP CO ub q7 θ.sz θ.a7 θ.lK Ac tP ia.agg CE vF CG vG CI vH
 C6 C7 C4 C5 p5 CC CD C8 CK sA C2 pZ zK zL CS sI Dq tX zX zY Dm Dp Dn vS Ds Dr vR aeqv jD mD vO hF n8 n9 HE Db zT Dd De Dh Dk Di zM CV CU θ.cells ri sK Dz Ends vW xT
@[simp] theorem jΗ {k:IntKind}:kP (.int k)=false:=rfl
@[simp] theorem jΘ:kP .bool=false:=rfl
@[simp] theorem jΙ:kP .string=false:=rfl
@[simp] theorem jΚ {e:TypeId}:kP (.slice e)=false:=rfl
@[simp] theorem jΜ {a b:TypeId}:kP (.map a b)=false:=rfl
@[simp] theorem jΝ {a:TypeId}:kP (.pointer a)=false:=rfl
@[simp] theorem jΞ {n:Nat} {a:TypeId}:kP (.array n a)=true:=rfl
theorem XE {P : Nat -> Prop} (n : Nat) (h : n < 256) (dA : ∀ m, m < 256 -> P m) : P n := dA n h
section
variable {m nt l : Nat} {a c : Code} {k : List Item} {env : aa} {σ : List Row} {Z : List Item -> aa -> List Row -> Prop} {E : θ -> aa -> List Row -> Prop}
class xY [bm] (k : List Item) (ab : outParam (List Item)) : Prop where
  h : ∀ {P : Program} {m nt : Nat} {env : aa} {σ : List Row} {Z : List Item -> aa -> List Row -> Prop} {E : θ -> aa -> List Row -> Prop}, W P m nt ab env σ Z E -> W P m nt k env σ Z E
instance : xY (.code (.seq a c) :: k) (.code a :: .code c :: k) := ⟨.seq⟩
instance : xY (.code (.block l c) :: k) (.code c :: .inBlock l :: k) := ⟨.block⟩
instance : xY (.inBlock l :: k) k := ⟨.inBlock⟩
instance : xY (.code .skip :: k) k := ⟨.skip⟩
theorem κ {P : Program} {ab : List Item} [xY k ab] (h : W P m nt ab env σ Z E) : W P m nt k env σ Z E := xY.h h
theorem aZ {P : Program} (h : W P m nt (.code a :: .code c :: k) env σ Z E) : W P m nt (.code (.seq a c) :: k) env σ Z E := .seq h
theorem wb {P : Program} (h : W P m nt (.code c :: .inBlock l :: k) env σ Z E) : W P m nt (.code (.block l c) :: k) env σ Z E := .block h
theorem a2 {P : Program} (h : W P m nt k env σ Z E) : W P m nt (.inBlock l :: k) env σ Z E := .inBlock h
theorem wd {P : Program} (h : W P m nt k env σ Z E) : W P m nt (.code .skip :: k) env σ Z E := .skip h
theorem ν {id : Nat} {ops : Array Oper} (h : ∀ η : aa -> List Row -> Prop, (∀ env σ, W Tryz.prog m nt k env σ Z E -> η env σ) -> run Tryz.prog a6 [] nt ops (idx ops.size []) env σ η E) : W Tryz.prog m nt (.code (.region id ops false) :: k) env σ Z E := dw Ι h
end
end Go.TL
