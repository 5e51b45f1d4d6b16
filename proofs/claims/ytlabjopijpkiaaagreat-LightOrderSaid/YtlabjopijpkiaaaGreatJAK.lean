import Derived.KernelRfl
import Derived.Sort.AssemblyPlain
import Derived.Test.YtlabjopijpkiaaaGreatProg
import Derived.Test.YtlabjopijpkiaaaGreatJAJ
set_option maxHeartbeats 16000000
set_option maxRecDepth 20000
set_option linter.unusedSectionVars false
set_option linter.unusedSimpArgs false
set_option linter.unusedVariables false
namespace Go.TL
open Go.Proofs.Tryz
open Go.Conc
variable [ZX]
def Zh (a b:Ω):Prop:=∀(S:μ) (B:Z8) (σ:Ο) (v:Value),π S B σ a v->π S B σ b v
def ZM (l m:κ):Prop:=l.length=m.length/\∀(i:Nat) (a b:Ω),l[i]?=some a->m[i]?=some b->Zh a b
theorem Zh.refl (a:Ω):Zh a a:=λ_ _ _ _ h=>h
theorem Zh.of {a b:Ω} (h:a=b):Zh a b:=h▸.refl a
theorem Zh.trans {a b c:Ω} (h:Zh a b) (k:Zh b c):Zh a c:=λS B σ v x=>k S B σ v (h S B σ v x)
theorem ZM.refl (l:κ):ZM l l:=⟨rfl,λi a b h k=>by rw[h] at k;cases k;exact .refl a⟩
theorem ZM.nil:ZM [] []:=.refl []
theorem ZM.cons {a b:Ω} {l m:κ} (h:Zh a b) (k:ZM l m):ZM (a::l) (b::m):=⟨by simp[k.1],λi x y c d=>by
 cases i with
 | zero=>simp at c d;subst c;subst d;exact h
 | succ i=>exact k.2 i x y (by simpa using c) (by simpa using d)⟩
theorem Zh.ZT {l m:κ} (h:ZM l m):Zh (.ZT l) (.ZT m):=λS B σ v x=>by
 cases x with
 | ZT vs c d=>
  refine .ZT vs (h.1.symm.trans c) λi b v hi hv=>?_;have e:i<l.length:=by rw[h.1];exact(ZA.1 hi).1
  have a:=δ e;exact h.2 i _ b a hi S B σ v (d i _ v a hv)
theorem Zh.ZW {l m:κ} (h:ZM l m):Zh (.ZW l) (.ZW m):=λS B σ v x=>by
 cases x with
 | ZW vs c d=>
  refine .ZW vs (h.1.symm.trans c) λi b v hi hv=>?_;have e:i<l.length:=by rw[h.1];exact(ZA.1 hi).1
  have a:=δ e;exact h.2 i _ b a hi S B σ v (d i _ v a hv)
theorem Zh.sl {e:Bool} {k:Nat} {l m:κ} (p:l.length=m.length) (h:∀(i:Nat) (a b:Ω),l[i]?=some a->m[i]?=some b->ZM a.cells b.cells):Zh (.sl e k l) (.sl false k m):=λS B σ v x=>by
 have r:∀(i:Nat) (b:Ω),m[i]?=some b->∃a,l[i]?=some a/\ZM a.cells b.cells:=λi b hi=>by
  have d:i<l.length:=by rw[p];exact(ZA.1 hi).1
  exact⟨_,δ d,h i _ b (δ d) hi⟩
 cases x with
 | Wo base cap s=>
  have:m=[]:=YL.1 p.symm;subst this;exact .Wo base cap λx=>by cases x
 | sl b o cap w C D t u A=>
  rw[p];refine .sl b o cap w (λx=>by cases x) U (λi y hi=>?_) (λi y hi j c n=>?_) (λi y hi j c n=>?_)
  .obtain⟨a,g,f⟩:=r i y hi;rw[<-f.1];exact t i a g
  .obtain⟨a,g,f⟩:=r i y hi;have d:j<a.cells.length:=by rw[f.1];exact(ZA.1 n).1
   exact u i a g j _ (δ d)
  .obtain⟨a,g,f⟩:=r i y hi;have d:j<a.cells.length:=by rw[f.1];exact(ZA.1 n).1
   have s:=δ d;exact f.2 j _ c s n S B σ _ (A i a g j _ s)
theorem Zh.ex {e:Bool} {k:Nat} {l:κ}:Zh (.sl e k l) (.sl false k l):=.sl rfl λi a b d c=>by rw[d] at c;cases c;exact .refl _
theorem Zh.nil {e:Bool} {k a:Nat}:Zh (.sl e k []) (.sl false a []):=λS B σ v x=>by
 have g:∀(l:κ),l=[]->π S B σ (.sl e k l) v->π S B σ (.sl false a []) v:=λl c x=>by
  cases x with
  | Wo base cap d=>exact .Wo base cap λx=>by cases x
  | sl b o cap w f h i j m=>subst c;exact .Wo _ cap λx=>by cases x
 exact g [] rfl x
theorem Zh.map {α:Type} {f g:α->Ω} {e:Bool} {k:Nat} {l:List α} (h:∀x∈l,ZM (f x).cells (g x).cells):Zh (.sl e k (l.map f)) (.sl false k (l.map g)):=.sl I λi a b c d=>by
 rw[YU] at c d;cases j:l[i]? with
 | none=>rw[j] at c;cases c
 | some x=>rw[j] at c d;cases c;cases d;exact h x (Zi j)
theorem ZM.one {a b:Ω} (h:Zh a b) (c:a.cells=[a]) (d:b.cells=[b]):ZM a.cells b.cells:=by rw[c,d];exact .cons h .nil
section
variable {P:Program} {σ:Ο}
theorem Xv.Nh {S:μ} {B:Z8} {l m:κ} {vs:Array Value} (h:ZM l m) (k:Xv S B σ l vs):Xv S B σ m vs:=⟨h.1.symm.trans k.1,λi b v hi hv=>by
 have c:i<l.length:=by rw[h.1];exact(ZA.1 hi).1
 have a:=δ c;exact h.2 i _ b a hi S B σ v (k.2 i _ v a hv)⟩
theorem Μ.T' {g:FuncId} {args d:κ} {K K' E:Ω->Ο->Prop} (h:Μ P g args σ K E) (i:ZM d args) (j:∀a s,K a s->∃b,Zh a b/\K' b s):Μ P g d σ K' E:=
 ⟨h.1,λk mn x c rest S B H vs l m hv e=>h.2 k mn x c rest S B H vs l m (hv.Nh i) ⟨λa σ' f B' H' v n o p r t=>by
  obtain⟨b,u,w⟩:=j a σ' n;exact e.ret b σ' f B' H' v w o p r (u f B' σ' v t),e.Nf⟩⟩
def Ε (P:Program) (g:FuncId) (args:κ) (r:Ω):Prop:=Μ P g args [] (λa s=>Zh a r/\s=[]) (λ_ _=>False)
theorem Ε.ct {g:FuncId} {args b:κ} {r:Ω} (h:Ε P g args r) (c:ZM b args):LM P g b r:=Μ.T' h c λa s ⟨d,e⟩=>⟨r,d,rfl,e⟩
theorem Ε.c {g:FuncId} {args b:κ} {r:Ω} {K E:Ω->Ο->Prop} (h:Ε P g args r) (d:ZM b args) (e:∀a∈b,ς 0 a) (f:ς 0 r) (i:K r σ):WA P (.fn (.func g) [] []) b σ K E:=
 LM.call (first:=[]) (captured:=[]) (by simpa using h.ct d) (by simpa using e) f i
theorem Ε.p {g:FuncId} {args b:κ} {r:Ω} (h:Ε P g args r) (d:ZM b args) (e:∀a∈b,ς 0 a) (f:ς 0 r):XS P (.fn (.func g) [] []) b r:=λ_=>h.c d e f ⟨rfl,rfl⟩
theorem Ε.d {g:FuncId} {args:κ} {r:Ω} {K E:Ω->Ο->Prop} (h:Ε P g args r) (b:K r σ) (e:∀a∈args,ς 0 a:=by simp) (f:ς 0 r:=by simp):WA P (.fn (.func g) [] []) args σ K E:=h.c (ZM.refl _) e f b
theorem Ε.q {g:FuncId} {args:κ} {r:Ω} (h:Ε P g args r) (b:∀a∈args,ς 0 a:=by simp) (c:ς 0 r:=by simp):XS P (.fn (.func g) [] []) args r:=h.p (ZM.refl _) b c
theorem Ε.cc {g:FuncId} {args b first captured:κ} {r:Ω} {K E:Ω->Ο->Prop} (h:Ε P g args r) (c:ZM (first++b++captured) args) (d:∀a∈first++b++captured,ς 0 a) (e:ς 0 r) (f:K r σ):WA P (.fn (.func g) first captured) b σ K E:=
 LM.call (h.ct c) d e f
end
theorem Ym.own {h id n k:Nat} {σ:Ο} {t:TypeId} {l:κ} (i:h<=id) (m:σ[id]?=some (.cells t k l)) (d:l.length=n) (o:∀e∈l,∀a∈e.cells,ς h a):Ym h σ (.ms id n 0 n) (.sl false k l):=by
 refine .ms i m d U d (λj e p b c=>?_) (λj e p b c x a r f g=>?_)
 .rw[UQ] at b;rw[b] at c;cases c;rfl
 .rw[UQ] at b;rw[b] at c;cases c;rw[f] at g;cases g;exact .low (o e (Zi b) a (Zi f))
end Go.TL
namespace Go.TL
open Go.Proofs.Tryz
open Go.Proofs
variable [ZX]
def GX (P:Program) (t:TypeId):Option (List (TypeDesc×Nat)):=
 if P.eqGuardType P.depth t=false then match P.underlying t with
  | some (.struct a)=>if P.stoodInHeld t=false/\a.toList.map (·.offset)=List.range a.toList.length/\(a.toList.all λf=>f.name != "_" && match P.underlying f.type with|some d=>VF d|none=>false)=true then some (a.toList.map λf=>((P.underlying f.type).getD .invalid,f.offset)) else none
  | some (.array n e)=>match P.underlying e,P.info? e with
   | some d,some f=>if VF d=true/\f.size=1 then some ((List.range n).map λi=>(d,i)) else none
   | _,_=>none
  | _=>none
 else none
theorem xJ (P:Program) (t:TypeId):Hm P t (GX P t):=by
 unfold GX;split
 .rename_i g;split
  .rename_i h b;split
   .rename_i a;refine⟨g,by rw[Sq,Yp];exact a.2.1,.inl ⟨h,b,a.1,rfl,λf c=>?_⟩⟩;have:=WQ.1 a.2.2 f c;simp only[Wt,bne_iff_ne,ne_eq] at this;refine⟨this.1,?_⟩;cases hd:P.underlying f.type with
    | none=>rw[hd] at this;simp at this
    | some d=>rw[hd] at this;exact⟨d,rfl,this.2⟩
   .trivial
  .rename_i n e b;split
   .rename_i d f hd c;split
    .rename_i a;exact⟨g,by rw[Sq,Yp,List.length_range];exact(NI λ_ _=>rfl).trans (List.map_id _),.inr ⟨n,e,d,f,b,hd,a.1,c,a.2,rfl⟩⟩
    .trivial
   .trivial
  .trivial
 .trivial
def ZR.of (P:Program):ZR:=λt=>match P.underlying t,P.info? t with
 | some d,some i=>match i.zero with|some z=>some ⟨i.size,d,z,i.bytes,GX P t⟩|none=>none
 | _,_=>none
theorem ZR.I7 (P:Program):ZB P (ZR.of P):=λt i h=>by
 unfold ZR.of at h;split at h
 .rename_i d f hd a;split at h
  .rename_i z b;cases h;exact⟨⟨hd,xJ P t⟩,f,a,rfl,b,rfl⟩
  .cases h
 .cases h
noncomputable def ZS:ZR:=ZR.of prog
theorem Ρ:ZB prog ZS:=ZR.I7 _
def Ob (b:List (Nat×Nat)) (a:Value) (c:Ω->Bool) (parts:List (Nat×Ω)):Zf:=
 match QP (λx=>(b[x]?).map λp=>(0,p.1,p.2)) (Wm a).cells.length c [Wm a] parts with
 | some [e]=>.ok (.ZT e.cells)
 | _=>.bad
def LG (es:Nat) (a:Value) (b:Ω->Bool) (parts:List (Nat×Ω)):Zf:=
 match QP (λx=>some (0,x*es,es)) (Wm a).cells.length b [Wm a] parts with
 | some [e]=>.ok (.ZT e.cells)
 | _=>.bad
theorem mixed:prog.follows .mixedOrders=true:=by kernel_rfl
section
variable {P:Program} {m nt:Nat} {k:List Item} {env:ω} {σ:Ο} {Z:X7} {E:Yn}
theorem W.iter {a:Type} {c:Code} (Inv:a->Prop) (d:a->ω) (f:a->Ο) (g:a->Nat) (e:a) (j:Inv e) (l:σ=f e) (o:∀p∈d e,Z7 env p.1=p.2)
  (step:∀i,Inv i->(∀b,Inv b->g b<g i->W P m nt (.inLoop c::k) (d b) (f b) Z E)->W P m nt (.code c::.inLoop c::k) (d i) (f i) Z E):W P m nt (.code (.loop c)::k) env σ Z E:=by
 refine .loop (.forget (d e) o ?_);rw[l];have r:∀(n:Nat) (i:a),g i<n->Inv i->W P m nt (.code c::.inLoop c::k) (d i) (f i) Z E:=by
  intro n
  induction n with
  | zero=>intro i h;omega
  | succ n s=>intro i hi t;exact step i t λb u v=>.inLoop (s b U u)
 exact r _ e (Qg _) j
end
section
variable {P:Program} {m nt:Nat} {k:List Item} {env:ω} {σ:Ο} {Z:X7} {E:Yn}
theorem W.Yv {c:Operand} {a e:Code} {v:Bool} (b:ζ env c=.z (.bool v)) (d:v=true->W P m nt (.code a::k) env σ Z E) (f:v=false->W P m nt (.code e::k) env σ Z E):W P m nt (.code (.cond c a e)::k) env σ Z E:=by
 refine .cond b ?_;cases v with
 | true=>exact d rfl
 | false=>exact f rfl
theorem Α {c:Operand} {a e:Code} (b:ζ env c=.z (.bool true)) (h:W P m nt (.code a::k) env σ Z E):W P m nt (.code (.cond c a e)::k) env σ Z E:=.cond b h
theorem Ζ {c:Operand} {a e:Code} (b:ζ env c=.z (.bool false)) (h:W P m nt (.code e::k) env σ Z E):W P m nt (.code (.cond c a e)::k) env σ Z E:=.cond b h
theorem Μ.body {F:Ω->Ο->Prop} {T:ZR} (d:ZB P T) {g:FuncId} {fn:Func} {b:Code} (e:P.funcs[g]?=some fn) (f:fn.body=some b) (i:(fn.name == "runtime.NumGoroutine")=false) {args:κ} {K:Ω->Ο->Prop} {c:List ResultVar} (j:fn.ntmps=nt) (k:σ.length=m) (l:fn.results.toList=c) (n:args.length<=nt)
  (h:W P m nt [.code b] (entry 0 args) σ (Ends T c K) (λa _ s=>F a s)):Μ P g args σ K F:=by
 subst j;subst k;subst l;exact .x' d e f i n h
end
abbrev J (i:Int):Ω:=.z (.int .i64 i)
abbrev Z4 (b:Bool):Ω:=.z (.bool b)
abbrev Z9 {α:Type} (enc:α->Ω) (k:Nat) (l:List α):Ω:=.sl false k (l.map enc)
abbrev Tc (b:ByteArray):Ω:=.z (.string b)
@[simp] theorem oe (x y:Int):(x==y)=decide (x=y):=by rw[Q6];simp
@[simp] theorem od (a b:Nat):((a:Int)=(b:Int))↔a=b:=U
attribute [simp] x9 x8 Jh x7 x6 YG x5 Va
attribute [congr] yi yf ye or_congr x0 xZ
attribute [simp] idx yk yj yh yg Td G4 xY xS xR xX xW xV xU xT Od VD Wb Zf.or Zf.YD Y2.holds XK WO Zt Z7 ζ Wm L4 entry RB P1 Ng Jr P5 Nr Ni Nm JP Nl JN JO Ob QP Ω.P4 Ω.YH Ω.Nj LG QR V5.agg JZ SO JX SN JV SM
 JC JB JE JD RD J1 J0 JA JS P3 JG RE LZ LY JM P0 Jn Pn LR LQ Jq Jo Jp Oe Jl Jm Of aeqv Vb TQ Og Wc SL SK G8 Jx LS Jw Jv Ju Js Jt LX JK JL Ω.cells SJ QM LO Ends PZ Nd
@[simp] theorem oc {k:IntKind}:Ue (.int k)=false:=rfl
@[simp] theorem ob:Ue .bool=false:=rfl
@[simp] theorem oa:Ue .string=false:=rfl
@[simp] theorem n' {e:TypeId}:Ue (.slice e)=false:=rfl
@[simp] theorem n9 {a b:TypeId}:Ue (.map a b)=false:=rfl
@[simp] theorem n8 {a:TypeId}:Ue (.pointer a)=false:=rfl
@[simp] theorem n7 {n:Nat} {a:TypeId}:Ue (.array n a)=true:=rfl
theorem xI {P:Nat->Prop} (n:Nat) (h:n<256) (a:∀m,m<256->P m):P n:=a n h
section
variable {m nt l:Nat} {a c:Code} {k:List Item} {env:ω} {σ:Ο} {Z:X7} {E:Yn}
class M9 [ZX] (k:List Item) (a:outParam (List Item)):Prop where
 h:∀{P:Program} {m nt:Nat} {env:ω} {σ:Ο} {Z:X7} {E:Yn},W P m nt a env σ Z E->W P m nt k env σ Z E
instance:M9 (.code (.seq a c)::k) (.code a::.code c::k):=⟨.seq⟩
instance:M9 (.code (.block l c)::k) (.code c::.inBlock l::k):=⟨.block⟩
instance:M9 (.inBlock l::k) k:=⟨.inBlock⟩
instance:M9 (.code .skip::k) k:=⟨.skip⟩
theorem Ξ {P:Program} {a:List Item} [M9 k a] (h:W P m nt a env σ Z E):W P m nt k env σ Z E:=M9.h h
theorem W5 {P:Program} (h:W P m nt (.code a::.code c::k) env σ Z E):W P m nt (.code (.seq a c)::k) env σ Z E:=.seq h
theorem wb {P:Program} (h:W P m nt (.code c::.inBlock l::k) env σ Z E):W P m nt (.code (.block l c)::k) env σ Z E:=.block h
theorem Wz {P:Program} (h:W P m nt k env σ Z E):W P m nt (.inBlock l::k) env σ Z E:=.inBlock h
theorem wd {P:Program} (h:W P m nt k env σ Z E):W P m nt (.code .skip::k) env σ Z E:=.skip h
theorem Y9 {id:Nat} {ops:Array Oper} (h:∀a:ω->Ο->Prop,(∀env σ,W prog m nt k env σ Z E->a env σ)->run prog ZS [] nt ops (idx ops.size []) env σ a E):W prog m nt (.code (.region id ops false)::k) env σ Z E:=Y4 Ρ h
end
theorem W.rt {P:Program} {T:ZR} {b:List ResultVar} {K:Ω->Ο->Prop} {m nt:Nat} {k:List Item} {env:ω} {σ:Ο} {E:Yn} {a:Ω} {p:Prop} {s:Ο} (h:p) (e:SJ T b env σ=some a:=by exact rfl) (c:K a σ=(p/\s=s):=by exact rfl):W P m nt (.code .ret::k) env σ (Ends T b K) E:=.ret ⟨a,e,c▸⟨h,rfl⟩⟩
end Go.TL
namespace Go.TL
open Go.Proofs.Tryz
open Go.Proofs
theorem Υ {a b:Prop} (x:a) (y:b):a/\b:=⟨x,y⟩
theorem Y1 {p q:Prop} (k:q) (h:q->p:=by intro k;(repeat (first|apply Ξ|apply W5|apply wb|apply Wz|apply wd));exact k):p:=h k
theorem Τ {p q:Prop} (k:q) (h:q->p:=by intro k;(repeat (first|apply Ξ|apply W5|apply wb|apply Wz|apply wd|(refine Y9 λb a=>?_;simp;(repeat (rw[Ν];simp));apply a)));exact k):p:=h k
theorem Γ {p f:Prop} {q:f->Prop} (a:f) (k:q a) (h:∀a,q a->p:=by intro b k;(repeat (first|apply Ξ|apply W5|apply wb|apply Wz|apply wd|(refine Y9 λd c=>?_;simp;(repeat (rw[Ν];simp[b]));apply c)));exact k):p:=h a k
theorem Wj {p q:Prop} (k:q) (h:q->p:=by intro k;(repeat (first|apply Ξ|apply W5|apply wb|apply Wz|apply wd|refine Α rfl ?_|refine Ζ rfl ?_|(refine Y9 λb a=>?_;simp;(repeat (rw[Ν];simp));apply a)));exact k):p:=h k
theorem Wi {p f:Prop} {q:f->Prop} (a:f) (k:q a) (h:∀a,q a->p:=by intro b k;(repeat (first|apply Ξ|apply W5|apply wb|apply Wz|apply wd|refine Α rfl ?_|refine Ζ rfl ?_|(refine Y9 λd c=>?_;simp;(repeat (rw[Ν];simp[b]));apply c)));exact k):p:=h a k
theorem VT {p q:Prop} (k:q) (h:q->p:=by intro k;refine Y9 λb a=>?_;simp;(repeat (rw[Ν];simp));apply a;exact k):p:=h k
theorem Tb {p f:Prop} {q:f->Prop} (a:f) (k:q a) (h:∀a,q a->p:=by intro b k;refine Y9 λd c=>?_;simp;(repeat (rw[Ν];simp[b]));apply c;exact k):p:=h a k
theorem Z' {p:Prop} {H:(ω->Ο->Prop)->Prop} {q:∀K,H K->Prop} (k:∀K h,q K h) (h:(∀K h,q K h)->p:=by intro k;(repeat (first|apply Ξ|apply W5|apply wb|apply Wz|apply wd));refine Y9 λa b=>?_;simp;(repeat (rw[Ν];simp));exact k a b):p:=h k
theorem XB {p f:Prop} {H:(ω->Ο->Prop)->Prop} {q:f->∀K,H K->Prop} (a:f) (k:∀K h,q a K h) (h:∀a,(∀K h,q a K h)->p:=by intro b k;(repeat (first|apply Ξ|apply W5|apply wb|apply Wz|apply wd));refine Y9 λc d=>?_;simp;(repeat (rw[Ν];simp[b]));exact k c d):p:=h a k
theorem Z6 {p q:Prop} (k:q) (h:q->p:=by intro k;simp;(repeat (rw[Ν];simp));exact k):p:=h k
theorem XJ {p f:Prop} {q:f->Prop} (a:f) (k:q a) (h:∀a,q a->p:=by intro b k;simp[b];(repeat (rw[Ν];simp[b]));exact k):p:=h a k
theorem QL {p q:Prop} (k:q) (h:q->p:=by intro k;simp;(repeat (rw[ZK];simp));(try rw[ZL]);exact k):p:=h k
theorem V8 {p f:Prop} {q:f->Prop} (a:f) (k:q a) (h:∀a,q a->p:=by intro b k;simp[b];(repeat (rw[ZK];simp[b]));(try rw[ZL]);exact k):p:=h a k
theorem Y8 {a b:Prop} (k:b) (h:a:=by exact XD (by kernel_rfl)):a/\b:=⟨h,k⟩
theorem Pj {p q:Prop} (k:q) (h:q->p:=by intro k;refine W.draw (A:=[]) Ρ mixed λb a=>?_;simp;(repeat (rw[ZK];simp));(try rw[ZL]);refine Y8 (a _ _ ?_);exact k):p:=h k
theorem XI {p f:Prop} {q:f->Prop} (a:f) (k:q a) (h:∀a,q a->p:=by intro b k;refine W.draw (A:=[]) Ρ mixed λd c=>?_;simp;(repeat (rw[ZK];simp[b]));(try rw[ZL]);refine Y8 (c _ _ ?_);exact k):p:=h a k
end Go.TL
namespace Go.TL
open Go.Proofs.Tryz
open Go.Proofs
variable [ZX]
@[simp] theorem t3:ZS 3=some ⟨1,.int .i64,.int .i64 0,8,none⟩:=by kernel_rfl
@[simp] theorem t4:ZS 4=some ⟨1,.bool,.bool false,1,none⟩:=by kernel_rfl
@[simp] theorem t5:ZS 5=some ⟨1,.int .u8,.int .u8 0,1,none⟩:=by kernel_rfl
@[simp] theorem t9:ZS 9=some ⟨1,.string,.string ⟨#[]⟩,16,none⟩:=by kernel_rfl
@[simp] theorem t21:ZS 21=some ⟨1,.int .i32,.int .i32 0,4,none⟩:=by kernel_rfl
@[simp] theorem t22:ZS 22=some ⟨1,.slice 77,.slice none 0 0,24,none⟩:=by kernel_rfl
@[simp] theorem n6:Wl ZS 22=some (77,2,none):=by kernel_rfl
@[simp] theorem t23:ZS 23=some ⟨1,.slice 29,.slice none 0 0,24,none⟩:=by kernel_rfl
@[simp] theorem n5:Wl ZS 23=some (29,1,none):=by kernel_rfl
@[simp] theorem t24:ZS 24=some ⟨1,.slice 60,.slice none 0 0,24,none⟩:=by kernel_rfl
@[simp] theorem n4:Wl ZS 24=some (60,1,none):=by kernel_rfl
noncomputable def DF:TypeDesc:=((ZS 26).getD ⟨0,.bool,.nilFunc,0,none⟩).ZE
@[simp] theorem t26:ZS 26=some ⟨3,DF,.agg #[.slice none 0 0,.slice none 0 0,.slice none 0 0],72,none⟩:=by kernel_rfl
@[simp] theorem n3:Ue DF=true:=by kernel_rfl
@[simp] theorem n2:W6 ZS 26 0=some (0,22):=by kernel_rfl
@[simp] theorem n1:W6 ZS 26 1=some (1,23):=by kernel_rfl
@[simp] theorem n0:W6 ZS 26 2=some (2,24):=by kernel_rfl
@[simp] theorem nZ (a:Ω->Bool) (b:List (Nat×Ω)):Te ZS a 26 b=Ob [(0,1),(1,1),(2,1)] (.agg #[.slice none 0 0,.slice none 0 0,.slice none 0 0]) a b:=by kernel_rfl
noncomputable def GW:TypeDesc:=((ZS 28).getD ⟨0,.bool,.nilFunc,0,none⟩).ZE
@[simp] theorem t28:ZS 28=some ⟨3,GW,.agg #[.int .i64 0,.int .i64 0,.int .i64 0],24,some [(.int .i64,0),(.int .i64,1),(.int .i64,2)]⟩:=by kernel_rfl
@[simp] theorem nY:Ue GW=true:=by kernel_rfl
@[simp] theorem nX:W6 ZS 28 0=some (0,3):=by kernel_rfl
@[simp] theorem nW:W6 ZS 28 1=some (1,3):=by kernel_rfl
@[simp] theorem nV:W6 ZS 28 2=some (2,3):=by kernel_rfl
@[simp] theorem nU (a:Ω->Bool) (b:List (Nat×Ω)):Te ZS a 28 b=Ob [(0,1),(1,1),(2,1)] (.agg #[.int .i64 0,.int .i64 0,.int .i64 0]) a b:=by kernel_rfl
@[simp] theorem t29:ZS 29=some ⟨1,.slice 3,.slice none 0 0,24,none⟩:=by kernel_rfl
@[simp] theorem nT:Wl ZS 29=some (3,1,none):=by kernel_rfl
@[simp] theorem t38:ZS 38=some ⟨1,.int .i64,.int .i64 0,8,none⟩:=by kernel_rfl
@[simp] theorem t60:ZS 60=some ⟨1,.slice 28,.slice none 0 0,24,none⟩:=by kernel_rfl
@[simp] theorem nS:Wl ZS 60=some (28,3,none):=by kernel_rfl
noncomputable def DD:TypeDesc:=((ZS 72).getD ⟨0,.bool,.nilFunc,0,none⟩).ZE
@[simp] theorem t72:ZS 72=some ⟨1,DD,.nilFunc,8,none⟩:=by kernel_rfl
@[simp] theorem nR:Ue DD=false:=by kernel_rfl
noncomputable def GV:TypeDesc:=((ZS 77).getD ⟨0,.bool,.nilFunc,0,none⟩).ZE
@[simp] theorem t77:ZS 77=some ⟨2,GV,.agg #[.string ⟨#[]⟩,.int .i64 0],24,some [(.string,0),(.int .i64,1)]⟩:=by kernel_rfl
@[simp] theorem nQ:Ue GV=true:=by kernel_rfl
@[simp] theorem nP:W6 ZS 77 0=some (0,9):=by kernel_rfl
@[simp] theorem nO:W6 ZS 77 1=some (1,3):=by kernel_rfl
@[simp] theorem nN (a:Ω->Bool) (b:List (Nat×Ω)):Te ZS a 77 b=Ob [(0,1),(1,1)] (.agg #[.string ⟨#[]⟩,.int .i64 0]) a b:=by kernel_rfl
@[simp] theorem t91:ZS 91=some ⟨1,.int .u64,.int .u64 0,8,none⟩:=by kernel_rfl
@[simp] theorem nM:W6 ZS 93 0=some (0,29):=by kernel_rfl
@[simp] theorem nL:W6 ZS 93 1=some (1,91):=by kernel_rfl
@[simp] theorem nK (a:Ω->Bool) (b:List (Nat×Ω)):Te ZS a 93 b=Ob [(0,1),(1,1)] (.agg #[.slice none 0 0,.int .u64 0]) a b:=by kernel_rfl
@[simp] theorem t95:ZS 95=some ⟨1,.int .u64,.int .u64 0,8,none⟩:=by kernel_rfl
noncomputable def DC:TypeDesc:=((ZS 98).getD ⟨0,.bool,.nilFunc,0,none⟩).ZE
@[simp] theorem t98:ZS 98=some ⟨3,DC,.agg #[.slice none 0 0,.slice none 0 0,.slice none 0 0],72,none⟩:=by kernel_rfl
@[simp] theorem nJ:Ue DC=true:=by kernel_rfl
@[simp] theorem nI:W6 ZS 98 0=some (0,26):=by kernel_rfl
@[simp] theorem nH (a:Ω->Bool) (b:List (Nat×Ω)):Te ZS a 98 b=Ob [(0,3)] (.agg #[.slice none 0 0,.slice none 0 0,.slice none 0 0]) a b:=by kernel_rfl
@[simp] theorem t99:ZS 99=some ⟨1,.slice 110,.slice none 0 0,24,none⟩:=by kernel_rfl
@[simp] theorem nG:Wl ZS 99=some (110,3,none):=by kernel_rfl
@[simp] theorem t102:ZS 102=some ⟨2,.array 2 3,.agg #[.int .i64 0,.int .i64 0],16,some [(.int .i64,0),(.int .i64,1)]⟩:=by kernel_rfl
@[simp] theorem nF:Wl ZS 102=some (3,1,some 2):=by kernel_rfl
@[simp] theorem nE (a:Ω->Bool) (b:List (Nat×Ω)):Te ZS a 102 b=LG 1 (.agg #[.int .i64 0,.int .i64 0]) a b:=by kernel_rfl
noncomputable def xH:TypeDesc:=((ZS 104).getD ⟨0,.bool,.nilFunc,0,none⟩).ZE
@[simp] theorem t104:ZS 104=some ⟨4,xH,.agg #[.int .i64 0,.int .i64 0,.int .i64 0,.bool false],32,none⟩:=by kernel_rfl
@[simp] theorem nD:W6 ZS 104 0=some (0,102):=by kernel_rfl
@[simp] theorem nC:W6 ZS 104 1=some (2,3):=by kernel_rfl
@[simp] theorem nB:W6 ZS 104 2=some (3,4):=by kernel_rfl
@[simp] theorem t106:ZS 106=some ⟨1,.map 113 3,.map none,8,none⟩:=by kernel_rfl
@[simp] theorem t107:ZS 107=some ⟨2,.array 2 3,.agg #[.int .i64 0,.int .i64 0],16,some [(.int .i64,0),(.int .i64,1)]⟩:=by kernel_rfl
@[simp] theorem nA (a:Ω->Bool) (b:List (Nat×Ω)):Te ZS a 107 b=LG 1 (.agg #[.int .i64 0,.int .i64 0]) a b:=by kernel_rfl
@[simp] theorem t108:ZS 108=some ⟨1,.slice 111,.slice none 0 0,24,none⟩:=by kernel_rfl
@[simp] theorem nz:Wl ZS 108=some (111,1,none):=by kernel_rfl
noncomputable def GU:TypeDesc:=((ZS 110).getD ⟨0,.bool,.nilFunc,0,none⟩).ZE
@[simp] theorem t110:ZS 110=some ⟨3,GU,.agg #[.int .i64 0,.int .i64 0,.slice none 0 0],40,none⟩:=by kernel_rfl
@[simp] theorem ny:Ue GU=true:=by kernel_rfl
@[simp] theorem nx:W6 ZS 110 0=some (0,107):=by kernel_rfl
@[simp] theorem nv:W6 ZS 110 1=some (2,108):=by kernel_rfl
@[simp] theorem nu (a:Ω->Bool) (b:List (Nat×Ω)):Te ZS a 110 b=Ob [(0,2),(2,1)] (.agg #[.int .i64 0,.int .i64 0,.slice none 0 0]) a b:=by kernel_rfl
@[simp] theorem t111:ZS 111=some ⟨1,.slice 112,.slice none 0 0,24,none⟩:=by kernel_rfl
@[simp] theorem ns:Wl ZS 111=some (112,2,none):=by kernel_rfl
@[simp] theorem t112:ZS 112=some ⟨2,.array 2 3,.agg #[.int .i64 0,.int .i64 0],16,some [(.int .i64,0),(.int .i64,1)]⟩:=by kernel_rfl
@[simp] theorem nq:Wl ZS 112=some (3,1,some 2):=by kernel_rfl
@[simp] theorem np (a:Ω->Bool) (b:List (Nat×Ω)):Te ZS a 112 b=LG 1 (.agg #[.int .i64 0,.int .i64 0]) a b:=by kernel_rfl
@[simp] theorem t113:ZS 113=some ⟨1,.int .i64,.int .i64 0,8,none⟩:=by kernel_rfl
@[simp] theorem t132:ZS 132=some ⟨1,.slice 21,.slice none 0 0,24,none⟩:=by kernel_rfl
@[simp] theorem nn:Wl ZS 132=some (21,1,none):=by kernel_rfl
@[simp] theorem t139:ZS 139=some ⟨3,.array 3 72,.agg #[.nilFunc,.nilFunc,.nilFunc],24,none⟩:=by kernel_rfl
@[simp] theorem nm (a:Ω->Bool) (b:List (Nat×Ω)):Te ZS a 139 b=LG 1 (.agg #[.nilFunc,.nilFunc,.nilFunc]) a b:=by kernel_rfl
@[simp] theorem t156:ZS 156=some ⟨1,.map 157 3,.map none,8,none⟩:=by kernel_rfl
@[simp] theorem t157:ZS 157=some ⟨4,.array 4 113,.agg #[.int .i64 0,.int .i64 0,.int .i64 0,.int .i64 0],32,some [(.int .i64,0),(.int .i64,1),(.int .i64,2),(.int .i64,3)]⟩:=by kernel_rfl
@[simp] theorem nk:Wl ZS 157=some (113,1,some 4):=by kernel_rfl
@[simp] theorem t169:ZS 169=some ⟨1,.int .u32,.int .u32 0,4,none⟩:=by kernel_rfl
@[simp] theorem nj:W6 ZS 171 0=some (0,21):=by kernel_rfl
@[simp] theorem ni:W6 ZS 171 1=some (1,169):=by kernel_rfl
@[simp] theorem nh:W6 ZS 173 1=some (0,171):=by kernel_rfl
@[simp] theorem ng:W6 ZS 177 2=some (0,91):=by kernel_rfl
@[simp] theorem nf:W6 ZS 179 1=some (0,177):=by kernel_rfl
@[simp] theorem nd:W6 ZS 179 2=some (1,169):=by kernel_rfl
@[simp] theorem t190:ZS 190=some ⟨1,.slice 9,.slice none 0 0,24,none⟩:=by kernel_rfl
@[simp] theorem nb:Wl ZS 190=some (9,1,none):=by kernel_rfl
@[simp] theorem t204:ZS 204=some ⟨1,.map 112 4,.map none,8,none⟩:=by kernel_rfl
@[simp] theorem t248:ZS 248=some ⟨1,.int .u64,.int .u64 0,8,none⟩:=by kernel_rfl
@[simp] theorem na:Uy ZS 22 22=some (77,2,⟨2,GV,.agg #[.string ⟨#[]⟩,.int .i64 0],24,some [(.string,0),(.int .i64,1)]⟩):=by kernel_rfl
@[simp] theorem m':Uy ZS 23 23=some (29,1,⟨1,.slice 3,.slice none 0 0,24,none⟩):=by kernel_rfl
@[simp] theorem m9:Uy ZS 24 24=some (60,1,⟨1,.slice 28,.slice none 0 0,24,none⟩):=by kernel_rfl
@[simp] theorem m8:Uy ZS 29 29=some (3,1,⟨1,.int .i64,.int .i64 0,8,none⟩):=by kernel_rfl
@[simp] theorem m7:Uy ZS 60 60=some (28,3,⟨3,GW,.agg #[.int .i64 0,.int .i64 0,.int .i64 0],24,some [(.int .i64,0),(.int .i64,1),(.int .i64,2)]⟩):=by kernel_rfl
@[simp] theorem m6:Uy ZS 99 99=some (110,3,⟨3,GU,.agg #[.int .i64 0,.int .i64 0,.slice none 0 0],40,none⟩):=by kernel_rfl
@[simp] theorem m5:Uy ZS 108 108=some (111,1,⟨1,.slice 112,.slice none 0 0,24,none⟩):=by kernel_rfl
@[simp] theorem m4:Uy ZS 111 111=some (112,2,⟨2,.array 2 3,.agg #[.int .i64 0,.int .i64 0],16,some [(.int .i64,0),(.int .i64,1)]⟩):=by kernel_rfl
@[simp] theorem m3:Uy ZS 132 132=some (21,1,⟨1,.int .i32,.int .i32 0,4,none⟩):=by kernel_rfl
theorem GR:IntKind.i64.wrap 1=1:=ZY
theorem GQ:IntKind.i64.wrap 2=2:=ZY
theorem X5 {i n:Nat} (h:i<n) (a:n<2 ^ 62):IntKind.i64.wrap ((i:Int)+1)=((i+1:Nat):Int):=by
 rw[IntWalk.i64_in _ U];rfl
theorem LF (a b:List Int) (g:a.length<2 ^ 62):Ε prog 30 [Z9 J 1 a,Z9 J 1 b] (Z4 (a==b)):=by
 refine Μ.body Ρ func30 rfl rfl ntmps30 rfl rfl I ?_;refine Τ ?_;refine W.iter (λp:Nat×Bool=>p.1<=a.length/\(p.2=true->a.length=b.length/\∀j,j<p.1->a[j]?=b[j]?)/\(p.2=false->a≠b)) (λp=>[(0,Z9 J 1 a),(1,Z9 J 1 b),(5,Z4 p.2),(6,J p.1)]) (λ_=>[]) (λp=>a.length-p.1) (0,decide (a.length=b.length)) ⟨χ _,I,by simp;exact λh e=>h (by rw[e])⟩ rfl I (λi hi k=>?_);rcases i with⟨i,_|_⟩
 .refine Τ ?_;refine Ζ rfl ?_;refine W.exit rfl ?_;refine Τ ?_;refine W.rt ?_;exact .of (by simp[hi.2.2 rfl])
 .refine Τ ?_;have l:=(hi.2.1 rfl).1;refine W.Yv rfl (λc=>?_) (λc=>?_)
  .have c:i<a.length:=by simpa using c
   have f:i<b.length:=U;refine Τ ?_;refine XI (Υ c f) ?_;refine Τ ?_;refine W.forget _ ?_ (k (i+1,decide (a[i]=b[i])) ⟨by simp;omega,λh=>⟨l,λj d=>?_⟩,λh e=>?_⟩ (by simp;omega))
   .simp[X5 c g]
   .by_cases e:j=i
    .subst e;rw[δ c,δ f];simpa using h
    .exact(hi.2.1 rfl).2 j (by simp at d;omega)
   .subst e;simp at h
  .have c:a.length<=i:=by simpa using c
   refine W.exit rfl ?_;refine Τ ?_;refine W.rt ?_;refine .of ?_;have:a=b:=VJ λj=>by
    by_cases d:j<i
    .exact(hi.2.1 rfl).2 j d
    .rw[Wu U,Wu U]
   simp[this]
abbrev ξ (l:List (List Int)):Ω:=Z9 (Z9 J 1) 1 l
theorem I6 (a b:List (List Int)) (n:a.length<2 ^ 40) (g:∀x∈a,x.length<2 ^ 40):Ε prog 50 [ξ a,ξ b] (Z4 (a==b)):=by
 refine Μ.body Ρ func50 rfl rfl ntmps50 rfl rfl I ?_;refine Τ ?_;refine W.iter (λp:Nat×Bool=>p.1<=a.length/\(p.2=true->a.length=b.length/\∀j,j<p.1->a[j]?=b[j]?)/\(p.2=false->a≠b)) (λp=>[(0,ξ a),(1,ξ b),(5,Z4 p.2),(6,J p.1)]) (λ_=>[]) (λp=>a.length-p.1) (0,decide (a.length=b.length)) ⟨χ _,I,by simp;exact λh e=>h (by rw[e])⟩ rfl I (λi hi k=>?_);rcases i with⟨i,_|_⟩
 .refine Τ ?_;refine Ζ rfl ?_;refine W.exit rfl ?_;refine Τ ?_;refine W.rt ?_;exact .of (by simp[hi.2.2 rfl])
 .refine Τ ?_;have l:=(hi.2.1 rfl).1;refine W.Yv rfl (λc=>?_) (λc=>?_)
  .have c:i<a.length:=by simpa using c
   have f:i<b.length:=U;refine Τ ?_;refine W.draw (A:=[]) Ρ mixed λo m=>V8 (Υ c f) ?_;refine Yl (Ε.q (LF a[i] b[i] (by have:=g _ (YF c);omega))) (QL ?_);refine Y8 (m _ _ ?_);refine Τ ?_;refine W.forget _ ?_ (k (i+1,a[i]==b[i]) ⟨by simp;omega,λh=>⟨l,λj d=>?_⟩,λh e=>?_⟩ (by simp;omega))
   .simp[X5 c (show a.length<2 ^ 62 by omega)]
   .by_cases e:j=i
    .subst e;rw[δ c,δ f];simpa using h
    .exact(hi.2.1 rfl).2 j (by simp at d;omega)
   .subst e;simp at h
  .have c:a.length<=i:=by simpa using c
   refine W.exit rfl ?_;refine Τ ?_;refine W.rt ?_;refine .of ?_;have:a=b:=VJ λj=>by
    by_cases d:j<i
    .exact(hi.2.1 rfl).2 j d
    .rw[Wu U,Wu U]
   simp[this]
structure T9 where
 name:ByteArray
 X0:Int
deriving DecidableEq
structure Zw where
 Ys:Int
 seen:Int
 bare:Int
deriving DecidableEq
structure ψ where
 Ι:List T9
 Δ:List (List Int)
 cells:List (List Zw)
deriving DecidableEq
abbrev XW (g:T9):Ω:=.ZT [Tc g.name,J g.X0]
abbrev Zv (p:Zw):Ω:=.ZT [J p.Ys,J p.seen,J p.bare]
abbrev ν (l:List T9):Ω:=Z9 XW 2 l
abbrev U' (l:List Zw):Ω:=Z9 Zv 3 l
abbrev Z2 (l:List (List Zw)):Ω:=Z9 U' 1 l
abbrev Yz (s:ψ):Ω:=.ZT [ν s.Ι,ξ s.Δ,Z2 s.cells]
def ψ.small (s:ψ):Prop:=s.Ι.length<2 ^ 30/\s.Δ.length<2 ^ 30/\s.cells.length<2 ^ 30/\(∀x∈s.Δ,x.length<2 ^ 30)/\∀x∈s.cells,x.length<2 ^ 30
@[simp] theorem m2 (x y:Int):(x != y) = !decide (x=y):=by rw[Q6];simp
section
variable {P:Program} {m nt:Nat} {k:List Item} {env:ω} {σ σ':Ο} {Z:X7} {E:Yn}
theorem W.drop {h:Nat} (c:m<=h) (d:h<=σ.length) (e:∀(id:Nat) (r:Row),id<h->σ[id]?=some r->X6 h r) (f:σ.take h=σ') (env':ω) (a:∀p∈env',Z7 env p.1=p.2/\ς h p.2) (g:W P m nt k env' σ' Z E):W P m nt k env σ Z E:=
 W.cut h c env' d e (λp b=>by rw[(a p b).1];exact .low (a p b).2) (by rw[f];exact g)
theorem W.fix {id:Nat} {t:TypeId} {e:Ω} {kk:Nat} (i:m<=id) (f:σ[id]?=some (.cells t kk [e])) (j:∀a∈e.cells,ς id a) (l:∀(g:Nat) (r:Row),g<id->σ[g]?=some r->X6 id r) (n:σ.take id=σ') (env':ω)
  (o:∀p∈env',(Z7 env p.1=p.2/\ς id p.2)\/(Z7 env p.1=.Κ id 1 0 0/\p.2=.Θ e.cells)) (s:W P m nt k env' σ' Z E):W P m nt k env σ Z E:=
 W.cut id i env' (Sr (ZA.1 f).1) l (λp u=>by
  rcases o p u with⟨b,c⟩|⟨b,c⟩
  .rw[b];exact .low c
  .rw[b,c];refine .Κ (γ _) f rfl (e:=e) rfl I λx a v d h=>?_;rw[UQ] at d;rw[d] at h;cases h;exact .low (j a (Zi d))) (by rw[n];exact s)
theorem W.to {env':ω} (h:W P m nt k env' σ' Z E) (a:σ=σ') (b:∀p∈env',Z7 env p.1=p.2):W P m nt k env σ Z E:=a▸W.forget env' b h
end
abbrev Uv (a b:Int):Int:=XY .i64 a b
abbrev Sb (a b:Int):Int:=QS .i64 a b
abbrev Oa (a b:Int):Int:=UK .i64 a b
section
variable {P:Program} {σ:Ο}
theorem XS.c {f:Ω} {args:κ} {r:Ω} {K E:Ω->Ο->Prop} (h:XS P f args r) (b:K r σ):WA P f args σ K E:=
 WA.mono (h σ) (λa s ⟨d,e⟩=>by subst d;subst e;exact b) (λ_ _ h=>h.elim)
end
def UI (n:Int):Bool:=decide (0<=n)&&decide (n<=2)
theorem Sa (n:Int):Ε prog 93 [J n] (Z4 (UI n)):=by
 refine Μ.body Ρ func93 rfl rfl ntmps93 rfl rfl I ?_;by_cases h:0<=n
 .refine Γ h ?_;refine W.rt ?_;exact .of (by simp[UI,h])
 .refine Γ h ?_;refine W.rt ?_;exact .of (by simp[UI,h])
def valid (n:Int):Bool:=decide (0<=n)&&decide (n<=63)
theorem M8 (n:Int):Ε prog 109 [J n] (Z4 (valid n)):=by
 refine Μ.body Ρ func109 rfl rfl ntmps109 rfl rfl I ?_;by_cases h:0<=n
 .refine Γ h ?_;refine W.rt ?_;exact .of (by simp[valid,h])
 .refine Γ h ?_;refine W.rt ?_;exact .of (by simp[valid,h])
theorem Dz (a b:Int):Ε prog 196 [J a,J b] (Z4 (Uv a b==0)):=by
 refine Μ.body Ρ func196 rfl rfl ntmps196 rfl rfl I ?_;refine Τ ?_;refine W.rt ?_;exact .of I
theorem Dy (a b:Int):Ε prog 210 [J a,J b] (Z4 (Oa a b==0)):=by
 refine Μ.body Ρ func210 rfl rfl ntmps210 rfl rfl I ?_;refine Τ ?_;refine W.rt ?_;exact .of I
theorem GP (b:Bool):Ε prog 127 [Z4 b] (J (if b then 1 else 0)):=by
 refine Μ.body Ρ func127 rfl rfl ntmps127 rfl rfl I ?_;cases b
 .refine Τ ?_;refine Ζ rfl ?_;refine Τ ?_;refine W.rt ?_;exact .refl _
 .refine Τ ?_;refine Α rfl ?_;refine Τ ?_;refine W.rt ?_;exact .refl _
theorem GO (n:Int):Ε prog 193 [J n] (Z4 false):=by
 refine Μ.body Ρ func193 rfl rfl ntmps193 rfl rfl I ?_;refine Τ ?_;refine W.rt ?_;exact .of I
def I5 (n:Int):Int:=Sb (Sb (Oa n 15) (IntKind.i64.wrap (Uv n 5*2))) ((Uv n 10).fdiv 2)
theorem xG (n:Int):Ε prog 99 [J n] (J (I5 n)):=by
 refine Μ.body Ρ func99 rfl rfl ntmps99 rfl rfl I ?_;refine Τ ?_;refine W.rt ?_;exact .of (by simp[I5,IntKind.bits])
def idxOf {α:Type} (p:α->Bool) (l:List α):Int:=if l.any p then(l.findIdx p:Nat) else -1
theorem LD {α:Type} {p:α->Bool} {l:List α} {i:Nat} (h:i<l.length) (b:p l[i]=true) (d:∀j,j<i->(f:j<l.length)->p l[j]=false):idxOf p l=(i:Nat):=by
 have e:l.any p=true:=Kp.2 ⟨_,YF h,b⟩
 have:l.findIdx p=i:=by
  have g:¬l.findIdx p<i:=λa=>by
   have c:l.findIdx p<l.length:=U
   have:=List.findIdx_getElem (p:=p) (w:=c);rw[d _ a c] at this;cases this
  have k:¬i<l.findIdx p:=λa=>by
   have:=List.not_of_lt_findIdx a;rw[b] at this;simp at this
  omega
 unfold idxOf;rw[if_pos e,this]
theorem LC {α:Type} {p:α->Bool} {l:List α} (h:∀j,(a:j<l.length)->p l[j]=false):idxOf p l=-1:=by
 have:l.any p=false:=by
  rw[List.any_eq_false];intro x b;obtain⟨j,a,rfl⟩:=OO b;simp[h j a]
 unfold idxOf;rw[this];rfl
theorem LB {α:Type} {p:α->Bool} {l:List α}:decide (idxOf p l>=0)=l.any p:=by
 unfold idxOf;cases h:l.any p<;>simp
theorem xF (l:List Int) (n:Int) (f:l.length<2 ^ 62):Ε prog 137 [Z9 J 1 l,J n] (J (idxOf (·==n) l)):=by
 refine Μ.body Ρ func137 rfl rfl ntmps137 rfl rfl I ?_;refine Τ ?_;refine W.iter (λi:Nat=>i<=l.length/\∀j,j<i->(h:j<l.length)->(l[j]==n)=false) (λi=>[(0,Z9 J 1 l),(1,J n),(6,Z9 J 1 l),(7,J l.length),(8,J i)]) (λ_=>[]) (λi=>l.length-i) 0 ⟨χ _,λj b=>U⟩ rfl I (λi hi g=>?_);refine Τ ?_;refine W.Yv rfl (λa=>?_) (λa=>?_)
 .have a:i<l.length:=by simpa using a
  refine Γ a ?_;refine W.Yv rfl (λc=>?_) (λc=>?_)
  .have d:n=l[i]:=by simpa using c
   refine Τ ?_;refine W.rt ?_;exact .of (by rw[LD a (by simp[d]) hi.2];rfl)
  .have d:¬n=l[i]:=by simpa using c
   refine Τ ?_;refine W.forget _ ?_ (g (i+1) ⟨U,λj b h=>?_⟩ U)
   .simp[X5 a f]
   .by_cases e:j=i
    .subst e;simpa using λx=>d x.symm
    .exact hi.2 j U h
 .have a:l.length<=i:=by simpa using a
  refine W.exit rfl ?_;refine Τ ?_;refine W.rt ?_;exact .of (by rw[LC λj b=>hi.2 j U b];rfl)
theorem any_beq (l:List Int) (n:Int):(l.any λx=>x==n)=l.contains n:=by
 rw[Q6];simp
theorem GN (l:List Int) (n:Int) (a:l.length<2 ^ 62):Ε prog 110 [Z9 J 1 l,J n] (Z4 (l.contains n)):=by
 refine Μ.body Ρ func110 rfl rfl ntmps110 rfl rfl I ?_;refine Τ ?_;refine Z' λc b=>?_;refine Ε.d (xF l n a) (Z6 ?_);apply b;refine Τ ?_;refine W.rt ?_;exact .of (by rw[<-any_beq,<-LB];rfl)
@[simp high] theorem xE {h:Nat} {e:Bool} {k:Nat} {α:Type} {f:α->Ω} {l:List α}:ς h (.sl e k (l.map f))↔∀x∈l,∀a∈(f x).cells,ς h a:=by
 rw[YG];simp only[Zq];exact⟨λH x b=>H _ ⟨x,b,rfl⟩,λH e ⟨x,b,c⟩=>c▸H x b⟩
@[simp high] theorem m1 {h:Nat} {e:Bool} {k n:Nat} {α:Type} {f:α->Ω} {l:List α}:ς h (.sl e k ((l.map f).take n))↔∀x∈l.take n,∀a∈(f x).cells,ς h a:=by
 rw[<-List.map_take];exact xE
abbrev Zj (r:Int×Int):Ω:=.ZT [J r.1,J r.2]
abbrev UZ (l:List (Int×Int)):Ω:=Z9 Zj 2 l
abbrev T8 (l:List (List (Int×Int))):Ω:=Z9 UZ 1 l
structure Found where
 u:Int
 v:Int
 cells:List (List (Int×Int))
deriving DecidableEq
abbrev YN (f:Found):Ω:=.ZT [J f.u,J f.v,T8 f.cells]
abbrev Zb (l:List Found):Ω:=Z9 YN 3 l
def ψ.of (s:ψ) (g:Int):Int:=if g<0 then 0 else((s.Ι[g.toNat]?).map (·.X0)).getD 0
theorem I7 (s:ψ) (g:Int) (c:g<s.Ι.length):Ε prog 125 [Yz s,J g] (J (s.of g)):=by
 refine Μ.body Ρ func125 rfl rfl ntmps125 rfl rfl I ?_;refine Τ ?_;refine W.Yv rfl (λa=>?_) (λa=>?_)
 .have a:g<0:=by simpa using a
  refine Τ ?_;refine W.rt ?_;exact .of (by rw[show s.of g=0 by simp[ψ.of,a]];rfl)
 .have a:¬g<0:=by simpa using a
  obtain⟨n,rfl⟩:∃n:Nat,g=n:=⟨g.toNat,U⟩;have b:n<s.Ι.length:=U;refine Γ b ?_;refine W.rt ?_;exact .of (by rw[show s.of n=s.Ι[n].X0 by simp[ψ.of,b];intro h;omega];rfl)
def ψ.XA (s:ψ) (p r:Int×Int) (b:Nat):Int:=
 let l:=(s.Δ[b]?).getD []
 let a:=if l.contains p.1 then Sb 0 (s.of r.1) else 0
 if l.contains p.2 then Sb a (s.of r.2) else a
theorem LA (s:ψ) (j:s.small) (p r:Int×Int) (n:Nat) (f:n<s.Δ.length) (k:r.1<s.Ι.length) (l:r.2<s.Ι.length) :
  Ε prog 77 [Yz s,Zj p,Zj r,J n] (J (s.XA p r n)):=by
 refine Μ.body Ρ func77 rfl rfl ntmps77 rfl rfl I ?_;have h:s.Δ[n].length<2 ^ 62:=by have:=j.2.2.2.1 _ (YF f);omega
 refine Τ ?_;refine W.iter (λq:Nat×Int=>q.1<=2/\(q.1=0->q.2=0)/\(q.1=1->q.2=if s.Δ[n].contains p.1 then Sb 0 (s.of r.1) else 0)/\(q.1=2->q.2=s.XA p r n))
  (λq=>[(3,J n),(4,.Θ [ν s.Ι,ξ s.Δ,Z2 s.cells]),(5,.Θ [J p.1,J p.2]),(6,.Θ [J r.1,J r.2]),(9,J q.2),(12,Zj p),(13,J q.1)]) (λ_=>[]) (λq=>2-q.1) (0,0) ⟨U,I,I,I⟩ rfl I (λq hi a=>?_)
 rcases q with⟨i,x⟩
 match i,hi,a with
 | 0,hi,a=>
  have c:x=0:=hi.2.1 rfl;subst c;refine Τ ?_;refine Α rfl ?_;refine Τ ?_;refine XB f λg e=>?_;refine Ε.d (GN s.Δ[n] p.1 h) (Z6 ?_);apply e;by_cases b:p.1∈s.Δ[n]
  .refine Α (by simp[b]) ?_;refine Τ ?_;refine W.draw (A:=[]) Ρ mixed λg e=>QL ?_;refine Yl (Ε.q (I7 s r.1 k)) (QL ?_);refine Y8 (e _ _ ?_);refine Τ ?_;refine W.forget _ ?_ (a (1,Sb 0 (s.of r.1)) ⟨I,I,by simp[b],I⟩ I);simp[GR]
  .refine Ζ (by simp[b]) ?_;refine Τ ?_;refine W.forget _ ?_ (a (1,0) ⟨I,I,by simp[b],I⟩ I);simp[GR]
 | 1,hi,a=>
  have c:=hi.2.2.1 rfl;simp at c;refine Τ ?_;refine Α rfl ?_;refine Τ ?_;refine XB f λg e=>?_;refine Ε.d (GN s.Δ[n] p.2 h) (Z6 ?_);apply e;by_cases b:p.2∈s.Δ[n]
  .refine Α (by simp[b]) ?_;refine Τ ?_;refine W.draw (A:=[]) Ρ mixed λg e=>QL ?_;refine Yl (Ε.q (I7 s r.2 l)) (QL ?_);refine Y8 (e _ _ ?_);refine Τ ?_;refine W.forget _ ?_ (a (2,Sb x (s.of r.2)) ⟨I,I,I,λ_=>by simp only[ψ.XA,δ f];simp[b,c]⟩ I);simp[GQ]
  .refine Ζ (by simp[b]) ?_;refine Τ ?_;refine W.forget _ ?_ (a (2,x) ⟨I,I,I,λ_=>by simp only[ψ.XA,δ f];simp[b,c]⟩ I);simp[GQ]
 | 2,hi,a=>
  have c:=hi.2.2.2 rfl;refine Τ ?_;refine Ζ rfl ?_;refine W.exit rfl ?_;refine Τ ?_;refine W.rt ?_;exact .of (by rw[<-show x=s.XA p r n from c];rfl)
 | i+3,hi,a=>exact absurd hi.1 I
def ψ.VB (s:ψ) (p r:Int×Int) (x:Zw):Bool:=Oa x.seen (s.XA p r x.Ys.toNat)==0&&Uv (s.XA p r x.Ys.toNat) x.bare==0
def ψ.Uu (s:ψ) (p r:Int×Int) (c:Nat):Bool:=((s.cells[c]?).getD []).all (s.VB p r)
theorem xD (s:ψ) (o:s.small) (p r:Int×Int) (c:Nat) (k:c<s.cells.length) (hv:∀x∈s.cells[c],0<=x.Ys/\x.Ys<s.Δ.length) (v:r.1<s.Ι.length) (w:r.2<s.Ι.length) :
  Ε prog 172 [Yz s,Zj p,Zj r,J c] (Z4 (s.Uu p r c)):=by
 refine Μ.body Ρ func172 rfl rfl ntmps172 rfl rfl I ?_;have y:s.cells[c].length<2 ^ 62:=by have:=o.2.2.2.2 _ (YF k);omega
 have B:s.Uu p r c=s.cells[c].all (s.VB p r):=by simp[ψ.Uu,k]
 rw[B];refine Γ k ?_;refine W.iter (λi:Nat=>i<=s.cells[c].length/\∀j,j<i->(h:j<s.cells[c].length)->s.VB p r s.cells[c][j]=true)
  (λi=>[(4,.Θ [ν s.Ι,ξ s.Δ,Z2 s.cells]),(5,.Θ [J p.1,J p.2]),(6,.Θ [J r.1,J r.2]),(17,U' s.cells[c]),(18,J s.cells[c].length),(19,J i)]) (λ_=>[]) (λi=>s.cells[c].length-i) 0 ⟨U,λj l=>U⟩ rfl I (λi hi C=>?_)
 refine Τ ?_;refine W.Yv rfl (λa=>?_) (λa=>?_)
 .have a:i<s.cells[c].length:=by simpa using a
  have t:=hv _ (YF a);obtain⟨n,u⟩:∃n:Nat,s.cells[c][i].Ys=n:=⟨s.cells[c][i].Ys.toNat,U⟩;have D:n<s.Δ.length:=U;have ZN:s.VB p r s.cells[c][i]=(Oa s.cells[c][i].seen (s.XA p r n)==0&&Uv (s.XA p r n) s.cells[c][i].bare==0):=by simp[ψ.VB,u]
  repeat apply Ξ
  refine Y4 (A:=[10]) Ρ λm b=>XJ a ?_;apply b
  repeat apply Ξ
  refine XB u λm b=>?_;refine Ε.d (LA s o p r n D v w) (Z6 ?_);apply b
  repeat apply Ξ
  by_cases f:Oa s.cells[c][i].seen (s.XA p r n)=0
  .refine XB @f λm b=>?_;refine Ε.d (Dy s.cells[c][i].seen (s.XA p r n)) (XJ @f ?_);refine Ε.d (Dz (s.XA p r n) s.cells[c][i].bare) (Z6 ?_);apply b;by_cases g:Uv (s.XA p r n) s.cells[c][i].bare=0
   .refine Ζ (by simp[g]) ?_;refine Τ ?_;refine W.drop (h:=0) (χ _) (χ _) I rfl _ ?_ (C (i+1) ⟨U,λj l h=>?_⟩ U)
    .simp[X5 a y]
    .by_cases e:j=i
     .subst e;rw[ZN];simp[f,g]
     .exact hi.2 j U h
   .refine Α (by simp[g]) ?_;refine Τ ?_;refine W.drop (h:=0) (χ _) (χ _) I rfl [(8,Z4 false)] I ?_;refine W.rt ?_;exact .of (by rw[show s.cells[c].all (s.VB p r)=false from List.all_eq_false.2 ⟨_,YF a,by rw[ZN];simp[g]⟩];rfl)
  .refine XB @f λm b=>?_;refine Ε.d (Dy s.cells[c][i].seen (s.XA p r n)) (XJ @f ?_);apply b;refine Α I ?_;refine Τ ?_;refine W.drop (h:=0) (χ _) (χ _) I rfl [(8,Z4 false)] I ?_;refine W.rt ?_;exact .of (by rw[show s.cells[c].all (s.VB p r)=false from List.all_eq_false.2 ⟨_,YF a,by rw[ZN];simp[f]⟩];rfl)
 .have a:s.cells[c].length<=i:=by simpa using a
  refine W.exit rfl ?_;refine Τ ?_;refine W.ret ⟨_,rfl,?_,rfl⟩;refine .of ?_;rw[show s.cells[c].all (s.VB p r)=true from WQ.2 λx t=>by
   obtain⟨j,l,rfl⟩:=OO t;exact hi.2 j U l]
  rfl
def Xh (l:List (List (Int×Int))) (a:Int) (i:Nat):Nat:=((List.range i).map λj:Nat=>if(j:Int)=a then 1 else((l[j]?).getD []).length).prod
theorem I4 (l:List (List (Int×Int))) (a:Int) (i:Nat):Xh l a (i+1)=Xh l a i*(if(i:Int)=a then 1 else((l[i]?).getD []).length):=by
 unfold Xh;rw[V0,Yc,List.prod_append];simp
def Found.many (f:Found) (a:Int):Nat:=Xh f.cells a f.cells.length
theorem Yg {n:Nat} (h:n<2 ^ 62):IntKind.i64.wrap (n:Int)=n:=IntWalk.i64_in _ U
theorem I3 (f:Found) (b:Int) (d:f.cells.length<2 ^ 62) (j:∀i,i<=f.cells.length->Xh f.cells b i<2 ^ 62) :
  Ε prog 78 [YN f,J b] (J (f.many b)):=by
 refine Μ.body Ρ func78 rfl rfl ntmps78 rfl rfl I ?_;refine Τ ?_;refine W.iter (λi:Nat=>i<=f.cells.length) (λi=>[(1,J b),(5,J (Xh f.cells b i)),(9,T8 f.cells),(10,J f.cells.length),(11,J i)]) (λ_=>[]) (λi=>f.cells.length-i) 0 (χ _) rfl (by simp[Xh]) (λi hi e=>?_);refine Τ ?_;refine W.Yv rfl (λa=>?_) (λa=>?_)
 .have a:i<f.cells.length:=by simpa using a
  have c:=I4 f.cells b i
  have h:=j (i+1) a;refine Γ a ?_;by_cases g:(i:Int)=b
  .refine Ζ (by simp[g]) ?_;refine Τ ?_;refine W.forget _ ?_ (e (i+1) a U);rw[c,if_pos g];simp[X5 a d]
  .refine Α (by simp[g]) ?_;have hv:Xh f.cells b i*f.cells[i].length<2 ^ 62:=by rw[c,if_neg g] at h;simpa[a] using h
   refine Γ a ?_;refine W.forget _ ?_ (e (i+1) a U);rw[c,if_neg g];simp only[δ a,Option.getD_some];have:=Yg hv;simp[X5 a d] at this ⊢;simp[this]
 .have a:i=f.cells.length:=by simp at a;omega
  subst a;refine W.exit rfl ?_;refine Τ ?_;refine W.rt ?_;exact .of rfl
def R' (a b:Int):Int:=if a<b then -1 else if b<a then 1 else 0
theorem xC (a b:Int):Ε prog 151 [J a,J b] (J (R' a b)):=by
 refine Μ.body Ρ func151 rfl rfl ntmps151 rfl rfl I ?_;refine Τ ?_;refine Z' λg f=>?_;refine Ε.d (GO a) (Z6 ?_);apply f;refine Z' λg f=>?_;refine Ε.d (GO b) (Z6 ?_);apply f;refine Τ ?_;refine Ζ rfl ?_;refine Τ ?_;refine Ζ rfl ?_;refine Τ ?_;refine W.Yv rfl (λc=>?_) (λc=>?_)
 .have c:a<b:=by simpa using c
  refine Τ ?_;refine W.rt ?_;exact .of (by rw[show R' a b=-1 by simp[R',c]];rfl)
 .have c:¬a<b:=by simpa using c
  refine Τ ?_;refine W.Yv rfl (λe=>?_) (λe=>?_)
  .have e:b<a:=by simpa using e
   refine Τ ?_;refine W.rt ?_;exact .of (by rw[show R' a b=1 by simp[R',c,e]];rfl)
  .have e:¬b<a:=by simpa using e
   refine Τ ?_;refine W.rt ?_;exact .of (by rw[show R' a b=0 by simp[R',c,e]];rfl)
theorem Ta (a b:Int):Ε prog 203 [J a,J b] (Z4 (decide (a<b))):=by
 refine Μ.body Ρ func203 rfl rfl ntmps203 rfl rfl I ?_;refine Τ ?_;refine Z' λe c=>?_;refine Ε.d (GO a) (Z6 ?_);apply c;refine Τ ?_;refine W.rt ?_;exact .of (by rw[show decide (a<b)=decide (a<b) from rfl];rfl)
def R9:List Int->List Int->Int
 | [],[]=>0
 | [],_::_=>-1
 | _::_,[]=>1
 | a::l,b::m=>if R' a b≠0 then R' a b else R9 l m
theorem GM (a b:List Int) (k:a.length<2 ^ 62):Ε prog 118 [Z9 J 1 a,Z9 J 1 b] (J (R9 a b)):=by
 refine Μ.body Ρ func118 rfl rfl ntmps118 rfl rfl I ?_;refine Τ ?_;refine W.iter (λi:Nat=>i<=a.length/\i<=b.length/\R9 a b=R9 (a.drop i) (b.drop i)) (λi=>[(0,Z9 J 1 a),(1,Z9 J 1 b),(9,Z9 J 1 a),(10,J a.length),(11,J i)]) (λ_=>[]) (λi=>a.length-i) 0 ⟨U,U,I⟩ rfl I (λi hi l=>?_);obtain⟨n,o,j⟩:=hi;refine Τ ?_;refine W.Yv rfl (λc=>?_) (λc=>?_)
 .have c:i<a.length:=by simpa using c
  have h:a.drop i=a[i]::a.drop (i+1):=OS c;refine Γ c ?_;refine W.Yv rfl (λe=>?_) (λe=>?_)
  .have e:b.length<=i:=by simp at e;omega
   refine Τ ?_;have f:b.drop i=[]:=NK e;refine W.rt ?_;exact .of (by rw[show R9 a b=1 by rw[j,h,f];rfl];rfl)
  .have e:i<b.length:=by simp at e;omega
   have f:b.drop i=b[i]::b.drop (i+1):=OS e
   repeat apply Ξ
   refine Tb e ?_;refine Z' λp m=>?_;refine Ε.d (xC a[i] b[i]) (Z6 ?_);apply m;refine Τ ?_;by_cases g:R' a[i] b[i]=0
   .refine Ζ (by simp[g]) ?_;refine Τ ?_;refine W.forget _ ?_ (l (i+1) ⟨c,e,?_⟩ U)
    .simp[X5 c k]
    .rw[j,h,f,R9,if_neg (by simpa using g)]
   .refine Α (by simp[g]) ?_;refine Τ ?_;refine W.rt ?_;exact .of (by rw[show R9 a b=R' a[i] b[i] by rw[j,h,f,R9,if_pos g]];rfl)
 .have c:i=a.length:=by simp at c;omega
  have h:a.drop i=[]:=NK U;refine W.exit rfl ?_;refine Τ ?_;by_cases g:a.length<b.length
  .refine Α (by simp[g]) ?_;refine Τ ?_;have f:b.drop i=b[i]::b.drop (i+1):=OS U;refine W.rt ?_;exact .of (by rw[show R9 a b=-1 by rw[j,h,f];rfl];rfl)
  .refine Ζ (by simp[g]) ?_;refine Τ ?_;have f:b.drop i=[]:=NK U;refine W.rt ?_;exact .of (by rw[show R9 a b=0 by rw[j,h,f];rfl];rfl)
def UH (x y:Int×Int):Int:=R9 [x.1,x.2] [y.1,y.2]
theorem Dx (x y:Int×Int):Ε prog 174 [Zj x,Zj y] (J (UH x y)):=by
 refine Μ.body Ρ func174 rfl rfl ntmps174 rfl rfl I ?_;refine Τ ?_;refine W.draw (A:=[]) Ρ mixed λb a=>QL ?_;refine Yl (Ε.p (GM [x.1,x.2] [y.1,y.2] I) (.cons .ex (.cons .ex .nil)) I I) ?_;simp;(repeat (rw[ZK];simp));try rw[ZL]
 refine Y8 (a _ _ ?_);refine Τ ?_;refine W.rt ?_;exact .of rfl
theorem xB (x y:Found):Ε prog 148 [YN x,YN y] (J (UH (x.u,x.v) (y.u,y.v))):=by
 refine Μ.body Ρ func148 rfl rfl ntmps148 rfl rfl I ?_;refine Τ ?_;refine W.draw (A:=[]) Ρ mixed λb a=>QL ?_;refine Yl (Ε.p (GM [x.u,x.v] [y.u,y.v] I) (.cons .ex (.cons .ex .nil)) I I) ?_;simp;(repeat (rw[ZK];simp));try rw[ZL]
 refine Y8 (a _ _ ?_);refine Τ ?_;refine W.rt ?_;exact .of rfl
def W1 (l:List Found):Nat:=(l.map (·.many (-1))).sum
theorem Dw (l:List Found) (g:l.length<2 ^ 62) (j:∀f∈l,f.cells.length<2 ^ 62/\∀i,i<=f.cells.length->Xh f.cells (-1) i<2 ^ 62) (r:W1 l<2 ^ 62) :
  Ε prog 79 [Zb l] (J (W1 l)):=by
 refine Μ.body Ρ func79 rfl rfl ntmps79 rfl rfl I ?_;refine Τ ?_;refine W.iter (λi:Nat=>i<=l.length) (λi=>[(3,J (W1 (l.take i))),(6,Zb l),(7,J l.length),(8,J i)]) (λ_=>[]) (λi=>l.length-i) 0 (χ _) rfl (by simp[W1]) (λi hi k=>?_);refine Τ ?_;refine W.Yv rfl (λa=>?_) (λa=>?_)
 .have a:i<l.length:=by simpa using a
  obtain⟨m,n⟩:=j _ (YF a);have c:W1 (l.take (i+1))=W1 (l.take i)+l[i].many (-1):=by
   unfold W1;rw[We a,Yc,Ml];simp only[Xg,UA,List.sum_cons,List.sum_nil,Nat.add_zero]
  have o:W1 (l.take i)+l[i].many (-1)<2 ^ 62:=by
   rw[<-c];have e:W1 l=W1 (l.take (i+1))+W1 (l.drop (i+1)):=by
    conv=>lhs;rw[<-OP (i+1) l]
    simp only[W1,Yc,Ml]
   omega
  repeat apply Ξ
  refine Y4 (A:=[5]) Ρ λp b=>XJ a ?_;apply b;refine Z' λp b=>?_;refine Ε.d (I3 l[i] (-1) m n) (Z6 ?_);apply b;refine Τ ?_;refine W.drop (h:=0) (χ _) (χ _) I rfl _ ?_ (k (i+1) a U);rw[c];have:=Yg o;simp[X5 a g] at this ⊢;exact this
 .have a:i=l.length:=by simp at a;omega
  subst a;refine W.exit rfl ?_;refine Τ ?_;refine W.rt ?_;exact .of (by rw[show W1 l=W1 (l.take l.length) by simp];rfl)
theorem ς.WM {a:Ω} (h:ς 0 a) (ρ:List Nat):WM ρ a=a:=by
 cases h with
 | Κ h=>omega
 | ms h=>omega
 | mp h=>omega
 | it h=>omega
 | _=>rfl
theorem I2 {l:κ} (h:∀a∈l,ς 0 a) (ρ:List Nat):l.map (WM ρ)=l:=by
 induction l with
 | nil=>rfl
 | cons a l b=>rw[Xg,(h a I).WM,b λx c=>h x (by simp[c])]
theorem ς.Yx {a:Ω} (h:ς 0 a) (ρ:List Nat):Yx ρ a=a:=by
 have b:=h;cases h with
 | ZT h=>simp only[Go.TL.Yx];rw[I2 h]
 | ZW h=>simp only[Go.TL.Yx];rw[I2 h]
 | fn c d=>simp only[Go.TL.Yx];rw[I2 c,I2 d]
 | _=>exact b.WM ρ
theorem ς.top {a:Ω} (h:ς 0 a) (n:Nat):Ua n a:=by
 have b:=h;cases h with
 | Κ h=>omega
 | ms h=>omega
 | mp h=>omega
 | it h=>omega
 | _=>exact b
theorem ς.Wh {a:Ω} (h:ς 0 a) (n:Nat):XC n a:=by
 have c:=h;cases h with
 | ZT h=>exact λa b=>(h a b).top n
 | ZW h=>exact λa b=>(h a b).top n
 | fn d e=>exact⟨λa b=>(d a b).top n,λa b=>(e a b).top n⟩
 | _=>exact c.top n
theorem UG {h id n i len:Nat}:XC h (.ms id n i len)↔id<h:=Iff.rfl
theorem N' {h:Nat} {v:Value}:XC h (.z v)↔True:=⟨λ_=>trivial,λ_=>(ς.z v).Wh h⟩
theorem UF {ρ:List Nat} {id n i len:Nat}:Yx ρ (.ms id n i len)=.ms (ρ.getD id 0) n i len:=rfl
theorem TN {ρ:List Nat} {v:Value}:Yx ρ (.z v)=.z v:=rfl
section
variable {P:Program} {σ:Ο}
theorem Μ.one {g:FuncId} {as0:κ} {c row':Row} {r:Ω} {K E:Ω->Ο->Prop} (h:Μ P g as0 [c] (λa s=>a=r/\s=[row']) (λ_ _=>False)) (id:Nat) (f:σ[id]?=some c) (k:V9 c) (l:V9 row') (m:∀a∈as0,XC 1 a) (b:XC 1 r)
  {args:κ} (n:args=as0.map (Yx [id])) (o:K (Yx [id] r) (σ.set id row')):WA P (.fn (.func g) [] []) args σ K E:=by
 subst n;have p:=Μ.rows (σ:=σ) h [id] I rfl (λj i d=>by
  cases j with
  | zero=>simp at d;subst d;exact f
  | succ j=>simp at d) (λr b=>by simp at b;subst b;exact k) (by simpa using m) (K':=K) (E':=E) (λa s ⟨t,u⟩=>by
   subst t;subst u;refine⟨λx e=>by simp at e;subst e;exact l,b,?_⟩;simpa[names,PS,VC] using o) (λa s h=>h.elim)
 exact Μ.call (first:=[]) (captured:=[]) (by simpa using p)
end
section
variable {P:Program} {σ:Ο}
theorem Μ.I1 {g:FuncId} {as0:κ} {c:Row} {K0 K E:Ω->Ο->Prop} (h:Μ P g as0 [c] K0 (λ_ _=>False)) (id:Nat) (f:σ[id]?=some c) (k:V9 c) (l:∀a∈as0,XC 1 a)
  {args:κ} (m:args=as0.map (Yx [id])) (n:∀a s,K0 a s->∃row',s=[row']/\V9 row'/\XC 1 a/\K (Yx [id] a) (σ.set id row')):WA P (.fn (.func g) [] []) args σ K E:=by
 subst m;have o:=Μ.rows (σ:=σ) h [id] I rfl (λj i d=>by
  cases j with
  | zero=>simp at d;subst d;exact f
  | succ j=>simp at d) (λr b=>by simp at b;subst b;exact k) (by simpa using l) (K':=K) (E':=E) (λa s p=>by
   obtain⟨row',rfl,t,b,u⟩:=n a s p;refine⟨λx e=>by simp at e;subst e;exact t,b,?_⟩;simpa[names,PS,VC] using u) (λa s h=>h.elim)
 exact Μ.call (first:=[]) (captured:=[]) (by simpa using o)
end
theorem SH {α:Type} {f:α->Ω} {t k:Nat} {l:List α} (h:∀x,∀a∈(f x).cells,ς 0 a):V9 (.cells t k (l.map f)):=λe b a c=>by
 obtain⟨x,_,rfl⟩:=Zq.1 b;exact h x a c
theorem Ym.part {id k m:Nat} {σ:Ο} {t:TypeId} {l l2:κ} (h:σ[id]?=some (.cells t k (l++l2))) (i:l.length=m) (n:∀e∈l,∀a∈e.cells,ς 0 a):Ym 0 σ (.ms id (l++l2).length 0 m) (.sl false k l):=by
 subst i;refine .ms (χ _) h rfl I rfl (λj e o c b=>?_) (λj e o c b x a p f g=>?_)
 .have d:=(ZA.1 b).1;rw[UQ,YK d] at c;rw[c] at b;cases b;rfl
 .have d:=(ZA.1 b).1;rw[UQ,YK d] at c;rw[c] at b;cases b;rw[f] at g;cases g;exact .low (n e (Zi c) a (Zi f))
theorem Rz {α:Type} [Inhabited α] {d:Array α} {i:Nat} (h:i<d.size):d[i]?=some d[i]!:=by simp[h]
def υ {α:Type} (a:α->α->Int) (x y:α):Bool:=decide (a x y<0)
end Go.TL
