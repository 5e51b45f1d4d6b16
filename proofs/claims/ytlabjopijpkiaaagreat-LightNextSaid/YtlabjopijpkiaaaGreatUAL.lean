import Derived.KernelRfl
import Derived.Test.YtlabjopijpkiaaaGreatProg
import Derived.Test.YtlabjopijpkiaaaGreatUAK
set_option maxHeartbeats 16000000
set_option maxRecDepth 20000
set_option linter.unusedSectionVars false
set_option linter.unusedSimpArgs false
set_option linter.unusedVariables false
namespace Go.TL
open Go.Proofs
variable [bt]
def It (P:Program) (t:TypeId):Option (List (TypeDesc×Nat)):=
 if P.eqGuardType P.depth t=false then match P.underlying t with
  | some (.struct dc)=>if P.stoodInHeld t=false/\dc.toList.map (·.offset)=List.range dc.toList.length/\(dc.toList.all λf=>f.name != "_" && match P.underlying f.type with|some d=>jh d|none=>false)=true then some (dc.toList.map λf=>((P.underlying f.type).getD .invalid,f.offset)) else none
  | some (.array n e)=>match P.underlying e,P.info? e with
   | some d,some f=>if jh d=true/\f.size=1 then some ((List.range n).map λi=>(d,i)) else none
   | _,_=>none
  | _=>none
 else none
theorem XF (P:Program) (t:TypeId):Ht P t (It P t):=by
 unfold It;split
 ·rename_i Ρ;split
  ·rename_i dc hu;split
   ·rename_i ε;refine⟨Ρ,by rw[List.map_map,List.length_map];exact ε.2.1,.inl ⟨dc,hu,ε.1,rfl,λf Χ=>?_⟩⟩;have:=List.all_eq_true.1 ε.2.2 f Χ;simp only[Bool.and_eq_true,bne_iff_ne,ne_eq] at this;refine⟨this.1,?_⟩;cases hd:P.underlying f.type with
    | none=>rw[hd] at this;simp at this
    | some d=>rw[hd] at this;exact⟨d,rfl,this.2⟩
   ·trivial
  ·rename_i n e hu;split
   ·rename_i d f hd Χ;split
    ·rename_i ε;exact⟨Ρ,by rw[List.map_map,List.length_map,List.length_range];exact(List.map_congr_left λ_ _=>rfl).trans (List.map_id _),.inr ⟨n,e,d,f,hu,hd,ε.1,Χ,ε.2,rfl⟩⟩
    ·trivial
   ·trivial
  ·trivial
 ·trivial
def bf.of (P:Program):bf:=λt=>match P.underlying t,P.info? t with
 | some d,some i=>match i.zero with|some z=>some ⟨i.size,d,z,i.bytes,It P t⟩|none=>none
 | _,_=>none
theorem bf.Eu (P:Program):bV P (bf.of P):=λt i h=>by
 unfold bf.of at h;split at h
 ·rename_i d f hd Χ;split at h
  ·rename_i z Θ;cases h;exact⟨⟨hd,XF P t⟩,f,Χ,rfl,Θ,rfl⟩
  ·cases h
 ·cases h
noncomputable def a7:bf:=bf.of Tryz.prog
theorem Φ:bV Tryz.prog a7:=bf.Eu _
def uk (pl:List (Nat×Nat)) (zero:Value) (a9:η->Bool) (parts:List (Nat×η)):cF:=
 match rl (λx=>(pl[x]?).map λp=>(0,p.1,p.2)) (hA zero).cells.length a9 [hA zero] parts with
 | some [e]=>.ok (.aV e.cells)
 | _=>.bad
def Aq (es:Nat) (zero:Value) (a9:η->Bool) (parts:List (Nat×η)):cF:=
 match rl (λx=>some (0,x*es,es)) (hA zero).cells.length a9 [hA zero] parts with
 | some [e]=>.ok (.aV e.cells)
 | _=>.bad
theorem mixed:Tryz.prog.follows .mixedOrders=true:=by kernel_rfl
section
variable {P:Program} {m nt:Nat} {k:List Item} {env:aa} {σ:List Row} {Z:List Item->aa->List Row->Prop} {E:η->aa->List Row->Prop}
theorem W.iter {ι:Type} {c:Code} (Inv:ι->Prop) (Ar:ι->aa) (Ev:ι->List Row) (Iu:ι->Nat) (i0:ι) (ai:Inv i0) (l5:σ=Ev i0) (cK:∀p∈Ar i0,a6 env p.1=p.2)
  (step:∀i,Inv i->(∀eL,Inv eL->Iu eL<Iu i->W P m nt (.inLoop c::k) (Ar eL) (Ev eL) Z E)->W P m nt (.code c::.inLoop c::k) (Ar i) (Ev i) Z E):W P m nt (.code (.loop c)::k) env σ Z E:=by
 refine .loop (.forget (Ar i0) cK ?_);rw[l5];have key:∀(n:Nat) (i:ι),Iu i<n->Inv i->W P m nt (.code c::.inLoop c::k) (Ar i) (Ev i) Z E:=by
  intro n
  induction n with
  | zero=>intro i h;omega
  | succ n Β=>intro i hi fx;exact step i fx λeL XG aB=>.inLoop (Β eL R XG)
 exact key _ i0 (Nat.lt_succ_self _) ai
end
section
variable {P:Program} {m nt:Nat} {k:List Item} {env:aa} {σ:List Row} {Z:List Item->aa->List Row->Prop} {E:η->aa->List Row->Prop}
theorem W.eM {c:Operand} {a e:Code} {v:Bool} (ε:aT env c=.z (.bool v)) (I:v=true->W P m nt (.code a::k) env σ Z E) (U:v=false->W P m nt (.code e::k) env σ Z E):W P m nt (.code (.cond c a e)::k) env σ Z E:=by
 refine .cond ε ?_;cases v with
 | true=>exact I rfl
 | false=>exact U rfl
theorem al {c:Operand} {a e:Code} (ε:aT env c=.z (.bool true)) (h:W P m nt (.code a::k) env σ Z E):W P m nt (.code (.cond c a e)::k) env σ Z E:=.cond ε h
theorem aj {c:Operand} {a e:Code} (ε:aT env c=.z (.bool false)) (h:W P m nt (.code e::k) env σ Z E):W P m nt (.code (.cond c a e)::k) env σ Z E:=.cond ε h
theorem ao.body {F:η->List Row->Prop} {T:bf} (Ι:bV P T) {g:FuncId} {fn:Func} {sz:Code} (bY:P.funcs[g]?=some fn) (nz:fn.body=some sz) (vS:(fn.name == "runtime.NumGoroutine")=false) {args:List η} {K:η->List Row->Prop} {rs:List ResultVar} (XH:fn.ntmps=nt) (hm:σ.length=m) (ih:fn.results.toList=rs) (hlen:args.length<=nt)
  (h:W P m nt [.code sz] (entry 0 args) σ (Ends T rs K) (λa _ s=>F a s)):ao P g args σ K F:=by
 subst XH;subst hm;subst ih;exact .Xb Ι bY nz vS hlen h
end
abbrev J (i:Int):η:=.z (.int .i64 i)
abbrev bm (b:Bool):η:=.z (.bool b)
abbrev a2 {α:Type} (enc:α->η) (k:Nat) (l:List α):η:=.sl false k (l.map enc)
abbrev nE (b:ByteArray):η:=.z (.string b)
@[simp] theorem jυ (x y:Int):(x==y)=decide (x=y):=by rw[Bool.eq_iff_iff];simp
@[simp] theorem jφ (a b:Nat):((a:Int)=(b:Int))↔a=b:=R
attribute [simp] Xc Xd N4 Xe Xf hh Xg l4
attribute [congr] W3 W6 W7 or_congr Xl Xm
attribute [simp] idx W1 W2 W4 W5 qi N0 Xn Xt Xu Xo Xp Xq Xr Xs v7 mN kK cF.or cF.dv da.holds fK h3 cj a6 aT hA zR entry qg sO xX DS sG xH xP xM De xN Dg Df uk rl η.sH η.a9 η.lW Aq tW im.agg C6 vL C8 vM C' vN
 Dx Dy Dv Dw qb C4 C5 Dz Db sI Dt p' zX zY Dj sP DW ug z' Aa DT DV DU vZ DY DX vY aeqv jQ mM vV hR n9 oa HV DG z6 DI DJ DN DR DO zZ Dl Dk η.cells qj sR D6 Ends v8 xZ
@[simp] theorem jχ {k:IntKind}:lU (.int k)=false:=rfl
@[simp] theorem jψ:lU .bool=false:=rfl
@[simp] theorem jω:lU .string=false:=rfl
@[simp] theorem jΑ {e:TypeId}:lU (.slice e)=false:=rfl
@[simp] theorem jΒ {a b:TypeId}:lU (.map a b)=false:=rfl
@[simp] theorem jΓ {a:TypeId}:lU (.pointer a)=false:=rfl
@[simp] theorem jΔ {n:Nat} {a:TypeId}:lU (.array n a)=true:=rfl
theorem XI {P:Nat->Prop} (n:Nat) (h:n<256) (dY:∀m,m<256->P m):P n:=dY n h
section
variable {m nt l:Nat} {a c:Code} {k:List Item} {env:aa} {σ:List Row} {Z:List Item->aa->List Row->Prop} {E:η->aa->List Row->Prop}
class x4 [bt] (k:List Item) (ae:outParam (List Item)):Prop where
 h:∀{P:Program} {m nt:Nat} {env:aa} {σ:List Row} {Z:List Item->aa->List Row->Prop} {E:η->aa->List Row->Prop},W P m nt ae env σ Z E->W P m nt k env σ Z E
instance:x4 (.code (.seq a c)::k) (.code a::.code c::k):=⟨.seq⟩
instance:x4 (.code (.block l c)::k) (.code c::.inBlock l::k):=⟨.block⟩
instance:x4 (.inBlock l::k) k:=⟨.inBlock⟩
instance:x4 (.code .skip::k) k:=⟨.skip⟩
theorem ar {P:Program} {ae:List Item} [x4 k ae] (h:W P m nt ae env σ Z E):W P m nt k env σ Z E:=x4.h h
theorem a3 {P:Program} (h:W P m nt (.code a::.code c::k) env σ Z E):W P m nt (.code (.seq a c)::k) env σ Z E:=.seq h
theorem wb {P:Program} (h:W P m nt (.code c::.inBlock l::k) env σ Z E):W P m nt (.code (.block l c)::k) env σ Z E:=.block h
theorem a4 {P:Program} (h:W P m nt k env σ Z E):W P m nt (.inBlock l::k) env σ Z E:=.inBlock h
theorem wd {P:Program} (h:W P m nt k env σ Z E):W P m nt (.code .skip::k) env σ Z E:=.skip h
theorem bC {id:Nat} {ops:Array Oper} (h:∀Ε:aa->List Row->Prop,(∀env σ,W Tryz.prog m nt k env σ Z E->Ε env σ)->run Tryz.prog a7 [] nt ops (idx ops.size []) env σ Ε E):W Tryz.prog m nt (.code (.region id ops false)::k) env σ Z E:=dG Φ h
end
theorem W.rt {P:Program} {T:bf} {rs:List ResultVar} {K:η->List Row->Prop} {m nt:Nat} {k:List Item} {env:aa} {σ:List Row} {E:η->aa->List Row->Prop} {a:η} {p:Prop} {s:List Row} (h:p) (e:qj T rs env σ=some a:=by exact rfl) (ς:K a σ=(p/\s=s):=by exact rfl):W P m nt (.code .ret::k) env σ (Ends T rs K) E:=.ret ⟨a,e,ς▸⟨h,rfl⟩⟩
end Go.TL
namespace Go.TL
open Go.Proofs
theorem Μ {a b:Prop} (x:a) (y:b):a/\b:=⟨x,y⟩
theorem x5 {p q:Prop} (k:q) (h:q->p:=by intro k;(repeat (first|apply ar|apply a3|apply wb|apply a4|apply wd));exact k):p:=h k
theorem Ζ {p q:Prop} (k:q) (h:q->p:=by intro k;(repeat (first|apply ar|apply a3|apply wb|apply a4|apply wd|(refine bC λΕ ζ=>?_;simp;(repeat (rw[Υ];simp));apply ζ)));exact k):p:=h k
theorem aR {p f:Prop} {q:f->Prop} (a:f) (k:q a) (h:∀a,q a->p:=by intro a1 k;(repeat (first|apply ar|apply a3|apply wb|apply a4|apply wd|(refine bC λΕ ζ=>?_;simp;(repeat (rw[Υ];simp[a1]));apply ζ)));exact k):p:=h a k
theorem um {p q:Prop} (k:q) (h:q->p:=by intro k;refine bC λΕ ζ=>?_;simp;(repeat (rw[Υ];simp));apply ζ;exact k):p:=h k
theorem uo {p f:Prop} {q:f->Prop} (a:f) (k:q a) (h:∀a,q a->p:=by intro a1 k;refine bC λΕ ζ=>?_;simp;(repeat (rw[Υ];simp[a1]));apply ζ;exact k):p:=h a k
theorem bN {p:Prop} {H:(aa->List Row->Prop)->Prop} {q:∀K,H K->Prop} (k:∀K h,q K h) (h:(∀K h,q K h)->p:=by intro k;(repeat (first|apply ar|apply a3|apply wb|apply a4|apply wd));refine bC λΕ ζ=>?_;simp;(repeat (rw[Υ];simp));exact k Ε ζ):p:=h k
theorem h5 {p f:Prop} {H:(aa->List Row->Prop)->Prop} {q:f->∀K,H K->Prop} (a:f) (k:∀K h,q a K h) (h:∀a,(∀K h,q a K h)->p:=by intro a1 k;(repeat (first|apply ar|apply a3|apply wb|apply a4|apply wd));refine bC λΕ ζ=>?_;simp;(repeat (rw[Υ];simp[a1]));exact k Ε ζ):p:=h a k
theorem bT {p q:Prop} (k:q) (h:q->p:=by intro k;simp;(repeat (rw[Υ];simp));exact k):p:=h k
theorem gQ {p f:Prop} {q:f->Prop} (a:f) (k:q a) (h:∀a,q a->p:=by intro a1 k;simp[a1];(repeat (rw[Υ];simp[a1]));exact k):p:=h a k
theorem rG {p q:Prop} (k:q) (h:q->p:=by intro k;simp;(repeat (rw[dN];simp));(try rw[dM]);exact k):p:=h k
theorem iu {p f:Prop} {q:f->Prop} (a:f) (k:q a) (h:∀a,q a->p:=by intro a1 k;simp[a1];(repeat (rw[dN];simp[a1]));(try rw[dM]);exact k):p:=h a k
theorem fy {a b:Prop} (k:b) (h:a:=by exact jk (by kernel_rfl)):a/\b:=⟨h,k⟩
theorem uq {p q:Prop} (k:q) (h:q->p:=by intro k;refine W.draw (A:=[]) Φ mixed λΕ ζ=>?_;simp;(repeat (rw[dN];simp));(try rw[dM]);refine fy (ζ _ _ ?_);exact k):p:=h k
theorem gx {p f:Prop} {q:f->Prop} (a:f) (k:q a) (h:∀a,q a->p:=by intro a1 k;refine W.draw (A:=[]) Φ mixed λΕ ζ=>?_;simp;(repeat (rw[dN];simp[a1]));(try rw[dM]);refine fy (ζ _ _ ?_);exact k):p:=h a k
end Go.TL
