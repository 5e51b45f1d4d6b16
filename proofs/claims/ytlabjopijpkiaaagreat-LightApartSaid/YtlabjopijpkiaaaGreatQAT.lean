import Derived.KernelRfl
import Derived.Test.YtlabjopijpkiaaaGreatProg
import Derived.Test.YtlabjopijpkiaaaGreatQAS
set_option maxHeartbeats 16000000
set_option maxRecDepth 20000
set_option linter.unusedSectionVars false
set_option linter.unusedSimpArgs false
set_option linter.unusedVariables false
namespace Go.TL
open Go.Conc
variable [bd]
def db (a b:θ):Prop:=∀(S:aA) (B:aN) (σ:List Row) (v:Value),aj S B σ a v→aj S B σ b v
def aI (l m:List θ):Prop:=l.length=m.length∧∀(i:Nat) (a b:θ),l[i]?=some a→m[i]?=some b→db a b
theorem db.refl (a:θ):db a a:=fun _ _ _ _ h=>h
theorem db.of {a b:θ} (h:a=b):db a b:=h▸.refl a
theorem db.trans {a b c:θ} (h:db a b) (k:db b c):db a c:=fun S B σ v x=>k S B σ v (h S B σ v x)
theorem aI.refl (l:List θ):aI l l:=⟨rfl,fun i a b h k=>by rw[h] at k;cases k;exact .refl a⟩
theorem aI.nil:aI [] []:=.refl []
theorem aI.cons {a b:θ} {l m:List θ} (h:db a b) (k:aI l m):aI (a::l) (b::m):=⟨by simp[k.1],fun i x y δ Ο=>by
 cases i with
 | zero=>simp at δ Ο;subst δ;subst Ο;exact h
 | succ i=>exact k.2 i x y (by simpa using δ) (by simpa using Ο)⟩
theorem db.aU {l m:List θ} (h:aI l m):db (.aU l) (.aU m):=fun S B σ v x=>by
 cases x with
 | aU vs R γ=>
  refine .aU vs (h.1.symm.trans R) fun i b v hi hv=>?_;have aE:i<l.length:=by rw[h.1];exact(b3.1 hi).1
  have μ:=bc aE;exact h.2 i _ b μ hi S B σ v (γ i _ v μ hv)
theorem db.bt {l m:List θ} (h:aI l m):db (.bt l) (.bt m):=fun S B σ v x=>by
 cases x with
 | bt vs R γ=>
  refine .bt vs (h.1.symm.trans R) fun i b v hi hv=>?_;have aE:i<l.length:=by rw[h.1];exact(b3.1 hi).1
  have μ:=bc aE;exact h.2 i _ b μ hi S B σ v (γ i _ v μ hv)
theorem db.sl {e:Bool} {k:Nat} {l m:List θ} (hlen:l.length=m.length) (h:∀(i:Nat) (a b:θ),l[i]?=some a→m[i]?=some b→aI a.cells b.cells):db (.sl e k l) (.sl false k m):=fun S B σ v x=>by
 have up:∀(i:Nat) (b:θ),m[i]?=some b→∃a,l[i]?=some a∧aI a.cells b.cells:=fun i b hi=>by
  have aE:i<l.length:=by rw[hlen];exact(b3.1 hi).1
  exact⟨_,bc aE,h i _ b (bc aE) hi⟩
 cases x with
 | h7 base cap η=>
  have:m=[]:=dq.1 hlen.symm;subst this;exact .h7 base cap fun x=>by cases x
 | sl b o cap w R γ ο Ι ay=>
  rw[hlen];refine .sl b o cap w (fun x=>by cases x) (by omega) (fun i y hi=>?_) (fun i y hi j c ε=>?_) (fun i y hi j c ε=>?_)
  ·obtain⟨a,μ,gw⟩:=up i y hi;rw[←gw.1];exact ο i a μ
  ·obtain⟨a,μ,gw⟩:=up i y hi;have aE:j<a.cells.length:=by rw[gw.1];exact(b3.1 ε).1
   exact Ι i a μ j _ (bc aE)
  ·obtain⟨a,μ,gw⟩:=up i y hi;have aE:j<a.cells.length:=by rw[gw.1];exact(b3.1 ε).1
   have η:=bc aE;exact gw.2 j _ c η ε S B σ _ (ay i a μ j _ η)
theorem db.ex {e:Bool} {k:Nat} {l:List θ}:db (.sl e k l) (.sl false k l):=.sl rfl fun i a b R γ=>by rw[R] at γ;cases γ;exact .refl _
theorem db.nil {e:Bool} {k Ω:Nat}:db (.sl e k []) (.sl false Ω []):=fun S B σ v x=>by
 have g:∀(l:List θ),l=[]→aj S B σ (.sl e k l) v→aj S B σ (.sl false Ω []) v:=fun l ω x=>by
  cases x with
  | h7 base cap η=>exact .h7 base cap fun x=>by cases x
  | sl b o cap w R γ ο Ι ay=>subst ω;exact .h7 _ cap fun x=>by cases x
 exact g [] rfl x
theorem db.map {α:Type} {f g:α→θ} {e:Bool} {k:Nat} {l:List α} (h:∀x∈l,aI (f x).cells (g x).cells):db (.sl e k (l.map f)) (.sl false k (l.map g)):=.sl (by simp) fun i a b R γ=>by
 rw[List.getElem?_map] at R γ;cases δ:l[i]? with
 | none=>rw[δ] at R;cases R
 | some x=>rw[δ] at R γ;cases R;cases γ;exact h x (cl δ)
theorem aI.one {a b:θ} (h:db a b) (μ:a.cells=[a]) (hb:b.cells=[b]):aI a.cells b.cells:=by rw[μ,hb];exact .cons h .nil
section
variable {P:Program} {σ:List Row}
theorem fl.wm {S:aA} {B:aN} {l m:List θ} {vs:Array Value} (h:aI l m) (k:fl S B σ l vs):fl S B σ m vs:=⟨h.1.symm.trans k.1,fun i b v hi hv=>by
 have aE:i<l.length:=by rw[h.1];exact(b3.1 hi).1
 have μ:=bc aE;exact h.2 i _ b μ hi S B σ v (k.2 i _ v μ hv)⟩
theorem ak.nm {g:FuncId} {args fU:List θ} {K K' E:θ→List Row→Prop} (h:ak P g args σ K E) (μ:aI fU args) (I:∀a s,K a s→∃b,db a b∧K' b s):ak P g fU σ K' E:=
 ⟨h.1,fun Q mn x c rest S B H vs δ Α hv hb=>h.2 Q mn x c rest S B H vs δ Α (hv.wm μ) ⟨fun a σ' au B' H' v υ he ω iD κ=>by
  obtain⟨b,R,γ⟩:=I a σ' υ;exact hb.ret b σ' au B' H' v γ he ω iD (R au B' σ' v κ),hb.wx⟩⟩
def av (P:Program) (g:FuncId) (args:List θ) (r:θ):Prop:=ak P g args [] (fun a s=>db a r∧s=[]) (fun _ _=>False)
theorem av.ct {g:FuncId} {args fU:List θ} {r:θ} (h:av P g args r) (μ:aI fU args):yW P g fU r:=ak.nm h μ fun a s ⟨R,γ⟩=>⟨r,R,rfl,γ⟩
theorem av.c {g:FuncId} {args fU:List θ} {r:θ} {K E:θ→List Row→Prop} (h:av P g args r) (μ:aI fU args) (hb:∀a∈fU,az 0 a) (κ:az 0 r) (I:K r σ):hR P (.fn (.func g) [] []) fU σ K E:=
 yW.call (first:=[]) (captured:=[]) (by simpa using h.ct μ) (by simpa using hb) κ I
theorem av.p {g:FuncId} {args fU:List θ} {r:θ} (h:av P g args r) (μ:aI fU args) (hb:∀a∈fU,az 0 a) (κ:az 0 r):fT P (.fn (.func g) [] []) fU r:=fun _=>h.c μ hb κ ⟨rfl,rfl⟩
theorem av.cc {g:FuncId} {args fU first captured:List θ} {r:θ} {K E:θ→List Row→Prop} (h:av P g args r) (μ:aI (first++fU++captured) args) (hb:∀a∈first++fU++captured,az 0 a) (κ:az 0 r) (I:K r σ):hR P (.fn (.func g) first captured) fU σ K E:=
 yW.call (h.ct μ) hb κ I
end
theorem ey.own {h id n k:Nat} {σ:List Row} {t:TypeId} {l:List θ} (bU:h≤id) (bH:σ[id]?=some (.cells t k l)) (Η:l.length=n) (hb:∀e∈l,∀a∈e.cells,az h a):ey h σ (.ms id n 0 n) (.sl false k l):=by
 refine .ms bU bH Η (by omega) Η (fun j e aH R γ=>?_) (fun j e aH R γ x a b9 ο Ι=>?_)
 ·rw[Nat.zero_add] at R;rw[R] at γ;cases γ;rfl
 ·rw[Nat.zero_add] at R;rw[R] at γ;cases γ;rw[ο] at Ι;cases Ι;exact .low (hb e (cl R) a (cl ο))
def fill {α:Type} (f:α→θ) (z:θ) (l:List α) (i:Nat):List θ:=(l.take i).map f++List.replicate (l.length-i) z
theorem LS {α:Type} (f:α→θ) (z:θ) (l:List α):fill f z l 0=List.replicate l.length z:=by simp[fill]
theorem LU {α:Type} (f:α→θ) (z:θ) (l:List α) {i:Nat} (h:l.length≤i):fill f z l i=l.map f:=by simp[fill,List.take_of_length_le h,Nat.sub_eq_zero_of_le h]
theorem Gx {α:Type} (f:α→θ) (z:θ) (l:List α) {i:Nat} (h:i≤l.length):(fill f z l i).length=l.length:=by simp[fill];omega
theorem Ut {α:Type} (f:α→θ) (z:θ) (l:List α) {i:Nat} (h:i<l.length):(fill f z l i)[i]?=some z:=by
 unfold fill;rw[hr (by simp;omega),List.getElem?_replicate];rw[if_pos (by simp;omega)]
theorem Gy {α:Type} (f:α→θ) (z:θ) (l:List α) {i:Nat} (h:i<l.length):(fill f z l i).set i (f l[i])=fill f z l (i+1):=by
 unfold fill;have Ε:l.length-i=(l.length-(i+1))+1:=by omega
 have Δ:((l.take i).map f).length=i:=by simp;omega
 rw[Ε,List.replicate_succ,List.set_append_right _ _ (by omega),Δ,Nat.sub_self,List.set_cons_zero,List.take_succ_eq_append_getElem h,List.map_append,List.append_assoc];rfl
end Go.TL
namespace Go.TL
open Go.Proofs
variable [bd]
def Gz (P:Program) (t:TypeId):Option (List (TypeDesc×Nat)):=
 if P.eqGuardType P.depth t=false then match P.underlying t with
  | some (.struct cV)=>if P.stoodInHeld t=false∧cV.toList.map (·.offset)=List.range cV.toList.length∧(cV.toList.all fun f=>f.name != "_" && match P.underlying f.type with|some d=>h8 d|none=>false)=true then some (cV.toList.map fun f=>((P.underlying f.type).getD .invalid,f.offset)) else none
  | some (.array n e)=>match P.underlying e,P.info? e with
   | some d,some f=>if h8 d=true∧f.size=1 then some ((List.range n).map fun i=>(d,i)) else none
   | _,_=>none
  | _=>none
 else none
theorem Uu (P:Program) (t:TypeId):Fy P t (Gz P t):=by
 unfold Gz;split
 ·rename_i Τ;split
  ·rename_i cV hu;split
   ·rename_i η;refine⟨Τ,by rw[List.map_map,List.length_map];exact η.2.1,.inl ⟨cV,hu,η.1,rfl,fun f Ρ=>?_⟩⟩;have:=List.all_eq_true.1 η.2.2 f Ρ;simp only[Bool.and_eq_true,bne_iff_ne,ne_eq] at this;refine⟨this.1,?_⟩;cases hd:P.underlying f.type with
    | none=>rw[hd] at this;simp at this
    | some d=>rw[hd] at this;exact⟨d,rfl,this.2⟩
   ·trivial
  ·rename_i n e hu;split
   ·rename_i d f hd Ρ;split
    ·rename_i η;exact⟨Τ,by rw[List.map_map,List.length_map,List.length_range];exact(List.map_congr_left fun _ _=>rfl).trans (List.map_id _),.inr ⟨n,e,d,f,hu,hd,η.1,Ρ,η.2,rfl⟩⟩
    ·trivial
   ·trivial
  ·trivial
 ·trivial
def a7.of (P:Program):a7:=fun t=>match P.underlying t,P.info? t with
 | some d,some i=>match i.zero with|some z=>some ⟨i.size,d,z,i.bytes,Gz P t⟩|none=>none
 | _,_=>none
theorem a7.CI (P:Program):bN P (a7.of P):=fun t i h=>by
 unfold a7.of at h;split at h
 ·rename_i d f hd Ρ;split at h
  ·rename_i z Ν;cases h;exact⟨⟨hd,Uu P t⟩,f,Ρ,rfl,Ν,rfl⟩
  ·cases h
 ·cases h
noncomputable def a9:a7:=a7.of Tryz.prog
theorem Θ:bN Tryz.prog a9:=a7.CI _
def uR (pl:List (Nat×Nat)) (zero:Value) (a0:θ→Bool) (parts:List (Nat×θ)):cr:=
 match qf (fun x=>(pl[x]?).map fun p=>(0,p.1,p.2)) (g2 zero).cells.length a0 [g2 zero] parts with
 | some [e]=>.ok (.aU e.cells)
 | _=>.bad
def y9 (es:Nat) (zero:Value) (a0:θ→Bool) (parts:List (Nat×θ)):cr:=
 match qf (fun x=>some (0,x*es,es)) (g2 zero).cells.length a0 [g2 zero] parts with
 | some [e]=>.ok (.aU e.cells)
 | _=>.bad
theorem mixed:Tryz.prog.follows .mixedOrders=true:=by kernel_rfl
section
variable {P:Program} {m nt:Nat} {k:List Item} {env:Χ} {σ:List Row} {Z:List Item→Χ→List Row→Prop} {E:θ→Χ→List Row→Prop}
theorem W.iter {wD:Type} {c:Code} (Inv:wD→Prop) (y':wD→Χ) (CJ:wD→List Row) (GA:wD→Nat) (i0:wD) (ae:Inv i0) (k3:σ=CJ i0) (cC:∀p∈y' i0,a5 env p.1=p.2)
  (step:∀i,Inv i→(∀eo,Inv eo→GA eo<GA i→W P m nt (.inLoop c::k) (y' eo) (CJ eo) Z E)→W P m nt (.code c::.inLoop c::k) (y' i) (CJ i) Z E):W P m nt (.code (.loop c)::k) env σ Z E:=by
 refine .loop (.forget (y' i0) cC ?_);rw[k3];have key:∀(n:Nat) (i:wD),GA i<n→Inv i→W P m nt (.code c::.inLoop c::k) (y' i) (CJ i) Z E:=by
  intro n
  induction n with
  | zero=>intro i h;omega
  | succ n Γ=>intro i hi fa;exact step i fa fun eo Uv aE=>.inLoop (Γ eo (by omega) Uv)
 exact key _ i0 (Nat.lt_succ_self _) ae
end
section
variable {P:Program} {m nt:Nat} {k:List Item} {env:Χ} {σ:List Row} {Z:List Item→Χ→List Row→Prop} {E:θ→Χ→List Row→Prop}
theorem W.dY {c:Operand} {a e:Code} {v:Bool} (η:aL env c=.z (.bool v)) (R:v=true→W P m nt (.code a::k) env σ Z E) (γ:v=false→W P m nt (.code e::k) env σ Z E):W P m nt (.code (.cond c a e)::k) env σ Z E:=by
 refine .cond η ?_;cases v with
 | true=>exact R rfl
 | false=>exact γ rfl
theorem al {c:Operand} {a e:Code} (η:aL env c=.z (.bool true)) (h:W P m nt (.code a::k) env σ Z E):W P m nt (.code (.cond c a e)::k) env σ Z E:=.cond η h
theorem ah {c:Operand} {a e:Code} (η:aL env c=.z (.bool false)) (h:W P m nt (.code e::k) env σ Z E):W P m nt (.code (.cond c a e)::k) env σ Z E:=.cond η h
theorem ak.body {F:θ→List Row→Prop} {T:a7} (Ζ:bN P T) {g:FuncId} {fn:Func} {re:Code} (b':P.funcs[g]?=some fn) (mC:fn.body=some re) (uy:(fn.name == "runtime.NumGoroutine")=false) {args:List θ} {K:θ→List Row→Prop} {rs:List ResultVar} (Uw:fn.ntmps=nt) (hm:σ.length=m) (js:fn.results.toList=rs) (hlen:args.length≤nt)
  (h:W P m nt [.code re] (entry 0 args) σ (Ends T rs K) (fun a _ s=>F a s)):ak P g args σ K F:=by
 subst Uw;subst hm;subst js;exact .TZ Ζ b' mC uy hlen h
end
abbrev U (i:Int):θ:=.z (.int .i64 i)
abbrev bm (b:Bool):θ:=.z (.bool b)
abbrev a3 {α:Type} (enc:α→θ) (k:Nat) (l:List α):θ:=.sl false k (l.map enc)
abbrev mG (b:ByteArray):θ:=.z (.string b)
@[simp] theorem eτ (x y:Int):(x==y)=decide (x=y):=by rw[Bool.eq_iff_iff];simp
@[simp] theorem eυ (a b:Nat):((a:Int)=(b:Int))↔a=b:=by omega
attribute [simp] T0 T1 Gg T2 T3 gA T4 k2
attribute [congr] TQ TT TU or_congr T' Ua
attribute [simp] idx TO TP TR TS oc Lv Ub Cx Uh Ui Uc Ud Ue Uf Ug uH lL jT cr.or cr.dh cT.holds fp hB b5 a5 aL g2 yx entry pd ry wv B7 rl v3 we v' BA wa BC BB uR qf θ.rm θ.a0 θ.kX y9 sI hP.agg Br uk Bt um Bv uo
 BR BS BP BQ o7 Bp Bq BT Bx rn BN o5 yF yG BF rz Cb sQ yS yT B8 Ca B9 uF Cd Cc uE aeqv jc lK uB hj nd ng F2 BX yO BZ B0 B3 B6 B4 yH BH BG θ.cells qp rB Ck Ends uI wy
@[simp] theorem eφ {k:IntKind}:kV (.int k)=false:=rfl
@[simp] theorem eχ:kV .bool=false:=rfl
@[simp] theorem eψ:kV .string=false:=rfl
@[simp] theorem eω {e:TypeId}:kV (.slice e)=false:=rfl
@[simp] theorem eΑ {a b:TypeId}:kV (.map a b)=false:=rfl
@[simp] theorem eΒ {a:TypeId}:kV (.pointer a)=false:=rfl
@[simp] theorem eΓ {n:Nat} {a:TypeId}:kV (.array n a)=true:=rfl
section
variable {m nt l : Nat} {a c : Code} {k : List Item} {env : Χ} {σ : List Row} {Z : List Item → Χ → List Row → Prop} {E : θ → Χ → List Row → Prop}
class wE [bd] (k : List Item) (Ω : outParam (List Item)) : Prop where
  h : ∀ {P : Program} {m nt : Nat} {env : Χ} {σ : List Row} {Z : List Item → Χ → List Row → Prop} {E : θ → Χ → List Row → Prop}, W P m nt Ω env σ Z E → W P m nt k env σ Z E
instance : wE (.code (.seq a c) :: k) (.code a :: .code c :: k) := ⟨.seq⟩
instance : wE (.code (.block l c) :: k) (.code c :: .inBlock l :: k) := ⟨.block⟩
instance : wE (.inBlock l :: k) k := ⟨.inBlock⟩
instance : wE (.code .skip :: k) k := ⟨.skip⟩
theorem ι {P : Program} {Ω : List Item} [wE k Ω] (h : W P m nt Ω env σ Z E) : W P m nt k env σ Z E := wE.h h
theorem aV {P : Program} (h : W P m nt (.code a :: .code c :: k) env σ Z E) : W P m nt (.code (.seq a c) :: k) env σ Z E := .seq h
theorem wb {P : Program} (h : W P m nt (.code c :: .inBlock l :: k) env σ Z E) : W P m nt (.code (.block l c) :: k) env σ Z E := .block h
theorem aX {P : Program} (h : W P m nt k env σ Z E) : W P m nt (.inBlock l :: k) env σ Z E := .inBlock h
theorem wd {P : Program} (h : W P m nt k env σ Z E) : W P m nt (.code .skip :: k) env σ Z E := .skip h
theorem ν {id : Nat} {ops : Array Oper} (h : ∀ J : Χ → List Row → Prop, (∀ env σ, W Tryz.prog m nt k env σ Z E → J env σ) → run Tryz.prog a9 [] nt ops (idx ops.size []) env σ J E) : W Tryz.prog m nt (.code (.region id ops false) :: k) env σ Z E := de Θ h
end
end Go.TL
