import Derived.Test.YtlabjopijpkiaaaGreatQAJ
set_option maxHeartbeats 16000000
set_option maxRecDepth 20000
set_option linter.unusedSectionVars false
set_option linter.unusedSimpArgs false
set_option linter.unusedVariables false
namespace Go.TL
open Go.Conc
inductive cr where
 | ok (a:θ)
 | b2 (p:Prop) (r:cr)
 | bad
def cr.dh (σ:List Row):cr→cT
 | .ok a=>.ok a σ
 | .b2 p r=>.b2 p (r.dh σ)
 | .bad=>.bad
section
variable {P:Program} {T:a7} {S:aA} {B:aN} {H:ψ} {σ:List Row} {env:Χ} {t:Array Value}
def fH (k:IntKind) (a b:Int):Int:=k.wrap (BitVec.ofInt k.bits a&&&BitVec.ofInt k.bits b).toNat
def qd (k:IntKind) (a b:Int):Int:=k.wrap (BitVec.ofInt k.bits a|||BitVec.ofInt k.bits b).toNat
def yy (k:IntKind) (a b:Int):Int:=k.wrap (BitVec.ofInt k.bits a^^^BitVec.ofInt k.bits b).toNat
def n6 (k:IntKind) (a b:Int):Int:=k.wrap (BitVec.ofInt k.bits a&&&~~~BitVec.ofInt k.bits b).toNat
def Bo (a b:ByteArray):Bool:=Op.bytesLess a.toList b.toList
def rk (a b:ByteArray):Bool:=Op.bytesLess a.toList b.toList||a.toList==b.toList
def rl (op:BinOp) (x y:Value):cr:=
 match op,x,y with
 | .shl,.int k a,.int _ b=>.b2 (0≤b) (.ok (.z (.int k (k.wrap (a*2 ^ (min b.toNat k.bits))))))
 | .shr,.int k a,.int _ b=>.b2 (0≤b) (.ok (.z (.int k (a.fdiv (2 ^ (min b.toNat k.bits))))))
 | .add,.int k a,.int Ω b=>if k=Ω then .ok (.z (.int k (k.wrap (a+b)))) else .bad
 | .sub,.int k a,.int Ω b=>if k=Ω then .ok (.z (.int k (k.wrap (a-b)))) else .bad
 | .mul,.int k a,.int Ω b=>if k=Ω then .ok (.z (.int k (k.wrap (a*b)))) else .bad
 | .quo,.int k a,.int Ω b=>if k=Ω then .b2 (b≠0) (.ok (.z (.int k (k.wrap (a.tdiv b))))) else .bad
 | .rem,.int k a,.int Ω b=>if k=Ω then .b2 (b≠0) (.ok (.z (.int k (a.tmod b)))) else .bad
 | .and,.int k a,.int Ω b=>if k=Ω then .ok (.z (.int k (fH k a b))) else .bad
 | .or,.int k a,.int Ω b=>if k=Ω then .ok (.z (.int k (qd k a b))) else .bad
 | .xor,.int k a,.int Ω b=>if k=Ω then .ok (.z (.int k (yy k a b))) else .bad
 | .andNot,.int k a,.int Ω b=>if k=Ω then .ok (.z (.int k (n6 k a b))) else .bad
 | .eql,.int k a,.int Ω b=>if k=Ω then .ok (.z (.bool (a==b))) else .bad
 | .neq,.int k a,.int Ω b=>if k=Ω then .ok (.z (.bool (a != b))) else .bad
 | .lss,.int k a,.int Ω b=>if k=Ω then .ok (.z (.bool (decide (a<b)))) else .bad
 | .leq,.int k a,.int Ω b=>if k=Ω then .ok (.z (.bool (decide (a≤b)))) else .bad
 | .gtr,.int k a,.int Ω b=>if k=Ω then .ok (.z (.bool (decide (a > b)))) else .bad
 | .geq,.int k a,.int Ω b=>if k=Ω then .ok (.z (.bool (decide (a≥b)))) else .bad
 | .add,.string a,.string b=>.b2 (((a.size+b.size:Nat):Int)≤IntKind.i64.max) (.ok (.z (.string (a++b))))
 | .eql,.string a,.string b=>.ok (.z (.bool (a.toList==b.toList)))
 | .neq,.string a,.string b=>.ok (.z (.bool !(a.toList==b.toList)))
 | .lss,.string a,.string b=>.ok (.z (.bool (Bo a b)))
 | .leq,.string a,.string b=>.ok (.z (.bool (rk a b)))
 | .gtr,.string a,.string b=>.ok (.z (.bool (!(rk a b))))
 | .geq,.string a,.string b=>.ok (.z (.bool (!(Bo a b))))
 | _,_,_=>.bad
theorem R8 (Α:Holds S B σ H) (op:BinOp) (ty:TypeId) (p q:Operand) (x y:Value):cB P (do eqGuard op ty p q x y;binOp op ty x y) S B H σ ((rl op x y).dh σ):=by
 unfold rl;split
 case h_25=>exact .bad
 case h_1=>
  refine .b2 fun h=>?_;have cP:¬(_:Int)<0:=Int.not_lt.2 h;simp only[eqGuard,binOp,Op.shift,cP,if_false];exact .pure Α (.z _)
 case h_2=>
  refine .b2 fun h=>?_;have cP:¬(_:Int)<0:=Int.not_lt.2 h;simp only[eqGuard,binOp,Op.shift,cP,if_false];exact .pure Α (.z _)
 case h_6=>
  split
  ·rename_i e;subst e;exact .b2 fun h=>by simp only[eqGuard,binOp,Op.intDiv,h,if_false,ne_eq,not_true_eq_false];exact .pure Α (.z _)
  ·exact .bad
 case h_7=>
  split
  ·rename_i e;subst e;exact .b2 fun h=>by simp only[eqGuard,binOp,Op.intDiv,h,if_false,ne_eq,not_true_eq_false];exact .pure Α (.z _)
  ·exact .bad
 case h_18=>
  refine .b2 fun h=>?_;have cP:¬((_:Int) > IntKind.i64.max):=Int.not_lt.2 h;simp only[eqGuard,binOp,Op.stringOp,cP,if_false];exact .pure Α (.z _)
 all_goals first
  | exact .pure Α (.z _)
  |(split
    ·rename_i e;subst e;simp only[eqGuard,binOp,Op.intArith,Op.intBits,Op.intCmp,ne_eq,not_true_eq_false,if_false];exact .pure Α (.z _)
    ·exact .bad)
def v3 (op:UnOp):θ→cr
 | .z (.bool b)=>match op with|.not=>.ok (.z (.bool !b))|_=>.bad
 | .z (.int k n)=>match op with|.neg=>.ok (.z (.int k (k.wrap (0-n))))|_=>.bad
 | _=>.bad
theorem R9 (Α:Holds S B σ H) (op:UnOp) {a:θ} {v:Value} (μ:aj S B σ a v):cB P (Op.unary op v) S B H σ ((v3 op a).dh σ):=by
 unfold v3;split
 ·cases μ;split
  ·exact .pure Α (.z _)
  ·exact .bad
 ·cases μ;split
  ·exact .pure Α (.z _)
  ·exact .bad
 ·exact .bad
def Bp (i:Nat):θ→cr
 | .bt l=>match l[i]? with|some a=>.ok a|none=>.bad
 | .z (.tuple vs)=>match vs[i]? with|some v=>.ok (g2 v)|none=>.bad
 | _=>.bad
theorem R' (Α:Holds S B σ H) (i:Nat) {a:θ} {v:Value} (μ:aj S B σ a v):cB P (Instr.extract v i) S B H σ ((Bp i a).dh σ):=by
 unfold Bp;split
 ·rename_i l;cases μ with
  | bt vs R γ=>
   cases ω:l[i]? with
   | none=>exact .bad
   | some a=>
    have aE:i<vs.size:=by rw[←R];exact(b3.1 ω).1
    have hv:vs[i]?=some vs[i]:=eY aE;simp only[Instr.extract,hv];exact .pure Α (γ i a _ ω hv)
 ·rename_i vs;cases μ;cases hv:vs[i]? with
  | none=>exact .bad
  | some v=>simp only[Instr.extract,hv];exact .pure Α (o2 v)
 ·exact .bad
def Bq (T:a7) (ty:TypeId) (a:θ):cr:=match T ty with
 | some i=>match i.bA with|.interface _=>.bad|_=>.ok (.fv ty a)
 | none=>.bad
theorem Sa (Ζ:bN P T) (Α:Holds S B σ H) (ty:TypeId) {a:θ} {v:Value} (μ:aj S B σ a v):cB P (Instr.makeInterface ty v) S B H σ ((Bq T ty a).dh σ):=by
 unfold Bq;cases hi:T ty with
 | none=>exact .bad
 | some i=>
  intro K I;unfold Instr.makeInterface;refine ς.bind' (Ζ.bA hi ?_);cases hu:i.bA<;>simp only[hu,cr.dh,cT.holds] at I<;>first|exact I.elim|exact ς.pure' (.same Α I (.fv v μ))
def uj (T:a7) (ty:TypeId) (ok:Bool) (a:θ):cr:=match T ty with
 | some i=>match i.bA with
  | .interface _=>.bad
  | _=>match a with
   | .fv t x=>if t=ty then .ok (if ok then .bt [x,.z (.bool true)] else x) else if ok then .ok (.bt [g2 i.zero,.z (.bool false)]) else .bad
   | .z .nilIface=>if ok then .ok (.bt [g2 i.zero,.z (.bool false)]) else .bad
   | _=>.bad
 | none=>.bad
theorem v5 {a b:θ} {v w:Value} (h:aj S B σ a v) (k:aj S B σ b w):aj S B σ (.bt [a,b]) (.tuple #[v,w]):=by
 refine .bt _ rfl fun i b9 eZ R γ=>?_
 match i with
 | 0=>simp at R γ;subst R;subst γ;exact h
 | 1=>simp at R γ;subst R;subst γ;exact k
 | i+2=>simp at R
theorem Sb (Ζ:bN P T) (Α:Holds S B σ H) (Sc ty:TypeId) (ok:Bool) {a:θ} {v:Value} (μ:aj S B σ a v):cB P (Instr.typeAssert v Sc ty ok) S B H σ ((uj T ty ok a).dh σ):=by
 unfold uj;cases hi:T ty with
 | none=>exact .bad
 | some i=>
  simp only;by_cases bb:∃w,i.bA=.interface w
  ·obtain⟨w,hw⟩:=bb;rw[hw];exact .bad
  have e:∀r:cr,(match i.bA with|.interface _=>cr.bad|_=>r)=r:=fun r=>by
   cases hu:i.bA<;>first|rfl|exact absurd ⟨_,hu⟩ bb
  rw[e];clear e;split
  ·rename_i t x;cases μ with
   | fv w δ=>
    split
    ·rename_i e;subst e;intro K I;unfold Instr.typeAssert;refine ς.bind' (Ζ.bA hi ?_);generalize i.bA=d at bb ⊢;cases d<;>first
      | exact absurd ⟨_,rfl⟩ bb
      |(simp only[if_true]
        cases ok
        ·exact ς.pure' (.same Α I δ)
        ·exact ς.pure' (.same Α I (v5 δ (.z _))))
    ·rename_i bu;split
     ·rename_i dA;subst dA;intro K I;unfold Instr.typeAssert;refine ς.bind' (Ζ.bA hi ?_);generalize i.bA=d at bb ⊢;cases d<;>first
       | exact absurd ⟨_,rfl⟩ bb
       |(simp only[bu,if_false,if_true]
         exact ς.bind' (Ζ.zero hi (ς.pure' (.same Α I (v5 (o2 _) (.z _))))))
     ·exact .bad
  ·cases μ;split
   ·rename_i dA;subst dA;intro K I;unfold Instr.typeAssert;refine ς.bind' (Ζ.bA hi ?_);generalize i.bA=d at bb ⊢;cases d<;>first
     | exact absurd ⟨_,rfl⟩ bb
     |(simp only[if_true]
       exact ς.bind' (Ζ.zero hi (ς.pure' (.same Α I (v5 (o2 _) (.z _))))))
   ·exact .bad
  ·exact .bad
end
section
variable {P:Program} {T:a7} {S:aA} {B:aN} {H:ψ} {σ:List Row}
def sI (i:hP) (l:List θ):cr:=
 if i.agg then(if i.size≤l.length then .ok (.aU (l.take i.size)) else .bad)
 else match l with
  | a::_=>.ok a
  | []=>.bad
def Br (T:a7) (ty:TypeId):θ→cr
 | .aa cells=>match T ty with|some i=>sI i cells|none=>.bad
 | _=>.bad
def uk (T:a7) (ty:TypeId) (σ:List Row):θ→cT
 | .ag id n i j=>match T ty,σ[id]? with
  | some j7,some (.cells _ _ l)=>if l.length=n then match l[i]? with
   | some e=>(sI j7 (e.cells.drop j)).dh σ
   | none=>.bad else .bad
  | _,_=>.bad
 | _=>.bad
theorem Bs (Ζ:bN P T) (Α:Holds S B σ H) {ty:TypeId} {i:hP} (hi:T ty=some i) {b o:Nat} {l:List θ} (w:Nat→Value) (η:∀(j:Nat) (a:θ),l[j]?=some a→∃p,H.aF b (o+j)=some (w j,p)) (κ:∀(j:Nat) (a:θ),l[j]?=some a→aj S B σ a (w j)) :
  cB P (loadVar ty ⟨b,o,none⟩) S B H σ ((sI i l).dh σ):=by
 intro K I;unfold sI at I;unfold loadVar;refine ς.bind' (Ζ.agg hi ?_);cases yz:i.agg with
 | true=>
  rw[yz] at I;simp only[if_true] at I ⊢;split at I
  ·rename_i hle;refine ς.bind' (Ζ.size hi (ς.bind' (ς.loadCells w rfl (fun j ε=>?_) ?_)))
   ·have:l[j]?=some l[j]:=bc (by omega);exact η j _ this
   ·refine ς.pure' (.same Α I (.aU _ (by simp;omega) fun j a v R γ=>?_));have ε:j<i.size:=by have:=(b3.1 R).1;simp at this;omega
    rw[List.getElem?_take_of_lt ε] at R;simp[ε] at γ;subst γ;exact κ j a R
  ·exact I.elim
 | false=>
  rw[yz] at I;simp only[Bool.false_eq_true,if_false] at I ⊢;cases l with
  | nil=>exact I.elim
  | cons a l=>
   obtain⟨p,χ⟩:=η 0 a rfl;exact⟨rfl,rfl,w 0,p,χ,h9.same Α I (κ 0 a rfl)⟩
theorem Sd (Ζ:bN P T) (Α:Holds S B σ H) {ty:TypeId} {a:θ} {v:Value} (μ:aj S B σ a v):cB P (Instr.loadAt ty v) S B H σ ((Br T ty a).dh σ):=by
 unfold Br;split
 ·rename_i cells;cases hi:T ty with
  | none=>exact .bad
  | some i=>
   cases μ with
   | aa b o w R γ=>exact Bs Ζ Α hi w (fun j a ε=>Α.c6 _ _ _ (R j a ε)) γ
 ·exact .bad
theorem KJ (Α:Holds S B σ H) {id k i b N:Nat} {t:TypeId} {l:List θ} {e:θ} (ω:σ[id]?=some (.cells t k l)) (hb:B[id]?=some (some (b,N))) (he:l[i]?=some e) :
  e.cells.length=k∧∃w:Nat→Value,∀(j:Nat) (a:θ),e.cells[j]?=some a→H.aF b (i*k+j)=some (w j,true)∧aj S B σ a (w j)∧One (w j):=by
 obtain⟨_,_,_,w,hw⟩:=Α.row id _ _ ω hb;exact⟨(hw i e he).1,w i,(hw i e he).2⟩
theorem Se (Ζ:bN P T) (Α:Holds S B σ H) {ty:TypeId} {a:θ} {v:Value} (μ:aj S B σ a v):cB P (Instr.loadAt ty v) S B H σ (uk T ty σ a):=by
 unfold uk;split
 ·rename_i id n i j;split
  ·rename_i j7 t k l hi ω;split
   ·rename_i Η;cases he:l[i]? with
    | none=>exact .bad
    | some e=>
     cases μ with
     | ag R γ ο=>
      rw[ω] at R;cases R;obtain⟨υ,w,hw⟩:=KJ Α ω ο he;refine Bs Ζ Α hi (fun x=>w (j+x)) (fun x a δ=>⟨true,?_⟩) (fun x a δ=>?_)
      ·rw[List.getElem?_drop] at δ;rw[Nat.add_assoc];exact(hw _ a δ).1
      ·rw[List.getElem?_drop] at δ;exact(hw _ a δ).2.1
     | ja v R γ=>rw[ω] at R;cases R;simp only[Row.gN] at γ;omega
   ·exact .bad
  ·exact .bad
 ·exact .bad
def fR (T:a7) (ty:TypeId) (f:Nat):Option (Nat×TypeId):=match T ty with
 | some i=>match i.bA with
  | .struct cV=>match cV[f]? with
   | some x=>match T x.type with
    | some b8=>if b8.size=0 then none else some (x.offset,x.type)
    | none=>none
   | none=>none
  | _=>none
 | none=>none
def Bt (T:a7) (ty:TypeId) (f:Nat):θ→cr
 | .aa cells=>match fR T ty f with|some (o,_)=>.ok (.aa (cells.drop o))|none=>.bad
 | .z (.pointer (some ⟨b,o',none⟩))=>match fR T ty f with|some (o,_)=>.ok (.z (.pointer (some ⟨b,o'+o,none⟩)))|none=>.bad
 | _=>.bad
def um (T:a7) (ty:TypeId) (f:Nat) (σ:List Row):θ→cT
 | .ag id n i j=>match fR T ty f,σ[id]? with
  | some (o,_),some (.cells _ _ l)=>if l.length=n then .ok (.ag id n i (j+o)) σ else .bad
  | _,_=>.bad
 | _=>.bad
theorem sJ (b o n:Nat):(⟨b,o,none⟩:Addr).add n=⟨b,o+n,none⟩:=by
 unfold Addr.add;split
 ·simp_all
 ·rfl
theorem KL {cells:List θ} {b o:Nat} (h:aj S B σ (.aa cells) (.pointer (some ⟨b,o,none⟩))) (n:Nat):aj S B σ (.aa (cells.drop n)) (.pointer (some ⟨b,o+n,none⟩)):=by
 cases h with
 | aa b o w R γ=>
  refine .aa b (o+n) (fun j=>w (n+j)) (fun j a ε=>?_) (fun j a ε=>?_)
  ·rw[List.getElem?_drop] at ε;rw[Nat.add_assoc];exact R _ a ε
  ·rw[List.getElem?_drop] at ε;exact γ _ a ε
theorem Fz (Ζ:bN P T) {ty:TypeId} {f o:Nat} {yA:TypeId} (Ρ:fR T ty f=some (o,yA)) {b o':Nat} {K:Value→ψ→Prop} {E:Value→ψ→Prop} (h:K (.pointer (some ⟨b,o'+o,none⟩)) H) :
  ς P (Instr.fieldAt ty (.pointer (some ⟨b,o',none⟩)) f) H K E:=by
 unfold fR at Ρ;split at Ρ<;>try cases Ρ
 rename_i i hi;split at Ρ<;>try cases Ρ
 rename_i cV hu;split at Ρ<;>try cases Ρ
 rename_i x δ;split at Ρ<;>try cases Ρ
 rename_i b8 n7;split at Ρ<;>try cases Ρ
 rename_i jO;unfold Instr.fieldAt;refine ς.bind' (Ζ.bA hi ?_);rw[hu];simp only[δ];refine ς.bind' ?_;unfold fieldPlace;refine ς.bind' (ς.bind' (Ζ.size n7 ?_));rw[if_neg jO,sJ];exact ς.pure' (ς.pure' h)
theorem Sf (Ζ:bN P T) (Α:Holds S B σ H) {ty:TypeId} {f:Nat} {a:θ} {v:Value} (μ:aj S B σ a v):cB P (Instr.fieldAt ty v f) S B H σ ((Bt T ty f a).dh σ):=by
 unfold Bt;split
 ·rename_i cells;cases Ρ:fR T ty f with
  | none=>exact .bad
  | some x=>
   obtain⟨o,yA⟩:=x;cases μ with
   | aa b o' w R γ=>exact fun K I=>Fz Ζ Ρ (h9.same Α I (KL (.aa b o' w R γ) o))
 ·rename_i b o';cases Ρ:fR T ty f with
  | none=>exact .bad
  | some x=>
   obtain⟨o,yA⟩:=x;cases μ;exact fun K I=>Fz Ζ Ρ (h9.same Α I (.z _))
 ·exact .bad
theorem Sg (Ζ:bN P T) (Α:Holds S B σ H) {ty:TypeId} {f:Nat} {a:θ} {v:Value} (μ:aj S B σ a v):cB P (Instr.fieldAt ty v f) S B H σ (um T ty f σ a):=by
 unfold um;split
 ·rename_i id n i j;split
  ·rename_i o yA t k l Ρ ω;split
   ·rename_i Η;cases μ with
    | ag R γ ο=>
     rw[ω] at R;cases R;refine fun K I=>Fz Ζ Ρ (h9.same Α I ?_);rw[Nat.add_assoc];exact .ag ω Η ο
    | ja v R γ=>rw[ω] at R;cases R;simp only[Row.gN] at γ;omega
   ·exact .bad
  ·exact .bad
 ·exact .bad
theorem qe {ex:Bool} {k:Nat} {l:List θ} {v:Value} (h:aj S B σ (.sl ex k l) v):∃base cap,v=.slice base l.length cap∧l.length≤cap∧(ex=true→cap=l.length)∧(l≠[]→∃(b o:Nat) (w:Nat→Nat→Value),base=some ⟨b,o,none⟩∧(∀(i:Nat) (e:θ),l[i]?=some e→e.cells.length=k)∧
  (∀(i:Nat) (e:θ),l[i]?=some e→∀(j:Nat) (c:θ),e.cells[j]?=some c→S b (o+i*k+j)=some (w i j))∧(∀(i:Nat) (e:θ),l[i]?=some e→∀(j:Nat) (c:θ),e.cells[j]?=some c→aj S B σ c (w i j))):=by
 cases h with
 | h7 base cap h=>exact⟨base,cap,rfl,Nat.zero_le _,h,fun x=>absurd rfl x⟩
 | sl b o cap w R γ ο Ι ay=>exact⟨_,cap,rfl,γ,R,fun _=>⟨b,o,w,rfl,ο,Ι,ay⟩⟩
theorem Si {ex:Bool} {k:Nat} {l:List θ} {base:Option Addr} {len cap i:Nat} {e:θ} (h:aj S B σ (.sl ex k l) (.slice base len cap)) (he:l[i]?=some e):∃b o,base=some ⟨b,o,none⟩∧aj S B σ (.aa e.cells) (.pointer (some ⟨b,o+i*k,none⟩)):=by
 obtain⟨Sj,FA,hv,_,_,R⟩:=qe h;cases hv;obtain⟨b,o,w,rfl,γ,ο,Ι⟩:=R (by rintro rfl;simp at he);exact⟨b,o,rfl,.aa b (o+i*k) (w i) (ο i e he) (Ι i e he)⟩
def hg (T:a7) (ty:TypeId):Option (TypeId×Nat×Option Nat):=match T ty with
 | some i=>match i.bA with
  | .slice e=>match T e with|some bS=>some (e,bS.size,none)|none=>none
  | .array n e=>match T e with|some bS=>some (e,bS.size,some n)|none=>none
  | _=>none
 | none=>none
theorem Bu {ty e:TypeId} {k:Nat} (h:hg T ty=some (e,k,none)):∃i bS,T ty=some i∧i.bA=.slice e∧T e=some bS∧bS.size=k:=by
 unfold hg at h;split at h
 ·rename_i i hi;split at h
  ·rename_i aH hu;split at h
   ·rename_i bS he;cases h;exact⟨i,bS,hi,hu,he,rfl⟩
   ·cases h
  ·split at h<;>cases h
  ·cases h
 ·cases h
theorem Sk {ty e:TypeId} {k n:Nat} (h:hg T ty=some (e,k,some n)):∃i bS,T ty=some i∧i.bA=.array n e∧T e=some bS∧bS.size=k:=by
 unfold hg at h;split at h
 ·rename_i i hi;split at h
  ·split at h<;>cases h
  ·rename_i aH iq hu;split at h
   ·rename_i bS he;cases h;exact⟨i,bS,hi,hu,he,rfl⟩
   ·cases h
  ·cases h
 ·cases h
def Bv (T:a7) (ty:TypeId) (a b8:θ):cr:=
 match hg T ty,b8 with
 | some (_,o3,none),.z (.int _ n)=>match a with
  | .sl _ k l=>if k=o3 then .b2 (0≤n∧n<l.length) (.ok (.aa (l.getD n.toNat .cp).cells)) else .bad
  | _=>.bad
 | some (_,o3,some m),.z (.int _ n)=>match a with
  | .aa cells=>.b2 (0≤n∧n<m) (.ok (.aa (cells.drop (n.toNat*o3))))
  | _=>.bad
 | _,_=>.bad
def uo (T:a7) (ty:TypeId) (σ:List Row) (a b8:θ):cT:=
 match hg T ty,b8 with
 | some (_,o3,none),.z (.int _ n)=>match a with
  | .ms id m i len=>match σ[id]? with
   | some (.cells _ k l)=>if k=o3∧l.length=m then .b2 (0≤n∧n<len) (.ok (.ag id m (i+n.toNat) 0) σ) else .bad
   | _=>.bad
  | _=>.bad
 | some (_,o3,some len),.z (.int _ n)=>match a with
  | .ag id m i j=>match σ[id]? with
   | some (.cells _ _ l)=>if l.length=m then .b2 (0≤n∧n<len) (.ok (.ag id m i (j+n.toNat*o3)) σ) else .bad
   | _=>.bad
  | _=>.bad
 | _,_=>.bad
theorem KM (Ζ:bN P T) {ty e:TypeId} {k:Nat} (he:hg T ty=some (e,k,none)) {b o len cap:Nat} {kk:IntKind} {n:Int} (Η:0≤n∧n<len) {K:Value→ψ→Prop} {E:Value→ψ→Prop}
  (h:K (.pointer (some ⟨b,o+n.toNat*k,none⟩)) H):ς P (Instr.indexAt ty (.slice (some ⟨b,o,none⟩) len cap) (.int kk n)) H K E:=by
 obtain⟨i,bS,hi,hu,FB,rfl⟩:=Bu he;unfold Instr.indexAt;refine ς.bind' ?_;refine ς.bind' (Ζ.bA hi ?_);rw[hu];refine ς.bind' (ς.pure' ?_);refine ς.bind' (Ζ.bA hi ?_);rw[hu];simp only[Η,and_self,if_true];refine ς.bind' (Ζ.size FB ?_);rw[sJ];exact h
theorem KN (Ζ:bN P T) {ty e:TypeId} {k m:Nat} (he:hg T ty=some (e,k,some m)) {b o:Nat} {kk:IntKind} {n:Int} (Η:0≤n∧n<m) {K:Value→ψ→Prop} {E:Value→ψ→Prop}
  (h:K (.pointer (some ⟨b,o+n.toNat*k,none⟩)) H):ς P (Instr.indexAt ty (.pointer (some ⟨b,o,none⟩)) (.int kk n)) H K E:=by
 obtain⟨i,bS,hi,hu,FB,rfl⟩:=Sk he;unfold Instr.indexAt;refine ς.bind' ?_;refine ς.bind' (Ζ.bA hi ?_);rw[hu];refine ς.bind' (ς.bind' (ς.pure' ?_));refine ς.bind' (Ζ.bA hi ?_);rw[hu];simp only[Η,and_self,if_true];refine ς.bind' (Ζ.size FB ?_);rw[sJ];exact h
theorem Sl (Ζ:bN P T) (Α:Holds S B σ H) {ty:TypeId} {a b8:θ} {v w:Value} (μ:aj S B σ a v) (δ:aj S B σ b8 w):cB P (Instr.indexAt ty v w) S B H σ ((Bv T ty a b8).dh σ):=by
 unfold Bv;split
 ·rename_i e o3 kk n he;cases δ;split
  ·rename_i ex k l;split
   ·rename_i υ;subst υ;refine .b2 fun Η=>?_;obtain⟨base,cap,rfl,_⟩:=qe μ;have aE:n.toNat<l.length:=by omega
    have my:l[n.toNat]?=some l[n.toNat]:=bc aE;obtain⟨b,o,rfl,κ⟩:=Si μ my;refine fun K I=>KM Ζ he Η (h9.same Α I ?_);rw[List.getD_eq_getElem?_getD,my];exact κ
   ·exact .bad
  ·exact .bad
 ·rename_i e o3 m kk n he;cases δ;split
  ·rename_i cells;refine .b2 fun Η=>?_;cases μ with
   | aa b o w R γ=>exact fun K I=>KN Ζ he Η (h9.same Α I (KL (.aa b o w R γ) _))
  ·exact .bad
 ·exact .bad
theorem Sm (Ζ:bN P T) (Α:Holds S B σ H) {ty:TypeId} {a b8:θ} {v w:Value} (μ:aj S B σ a v) (δ:aj S B σ b8 w):cB P (Instr.indexAt ty v w) S B H σ (uo T ty σ a b8):=by
 unfold uo;split
 ·rename_i e o3 kk n he;cases δ;split
  ·rename_i id m i len;split
   ·rename_i t k l ω;split
    ·rename_i υ;obtain⟨rfl,hm⟩:=υ;refine .b2 fun Η=>?_;cases μ with
     | ms cap R γ ο Ι ay a6=>
      rw[ω] at R;cases R;rcases a6 with a6|⟨b,N,rfl,rfl,a6⟩
      ·omega
      ·refine fun K I=>KM Ζ he Η (h9.same Α I ?_);have:i*k+n.toNat*k=(i+n.toNat)*k+0:=by rw[Nat.add_mul];rfl
       rw[this];exact .ag ω hm ο
     | iC v R γ=>rw[ω] at R;cases R;simp only[Row.gN] at γ;omega
    ·exact .bad
   ·exact .bad
  ·exact .bad
 ·rename_i e o3 len kk n he;cases δ;split
  ·rename_i id m i j;split
   ·rename_i t k l ω;split
    ·rename_i hm;refine .b2 fun Η=>?_;cases μ with
     | ag R γ ο=>
      rw[ω] at R;cases R;refine fun K I=>KN Ζ he Η (h9.same Α I ?_);rw[Nat.add_assoc];exact .ag ω hm ο
     | ja v R γ=>rw[ω] at R;cases R;simp only[Row.gN] at γ;omega
    ·exact .bad
   ·exact .bad
  ·exact .bad
 ·exact .bad
end
def θ.a0 (σ:List Row):θ→Bool
 | .z v=>match v with|.agg _|.tuple _=>false|_=>true
 | .aU _|.bt _|.cp=>false
 | .ag id n _ _|.ms id n _ _=>match σ[id]? with|some (.cells _ _ l)=>decide (l.length≤n)|_=>false
 | .mp id=>match σ[id]? with|some (.map _)=>true|_=>false
 | .it id=>match σ[id]? with|some (.iter ..)=>true|_=>false
 | _=>true
def θ.rm:θ→Nat→List θ→θ
 | .aU l,j,cs=>.aU (l.take j++cs++l.drop (j+cs.length))
 | _,0,[c]=>c
 | e,_,_=>e
theorem θ.FC {σ:List Row} {a:θ} (h:a.a0 σ=true):a.cells=[a]:=by
 cases a<;>first|rfl|cases h
theorem θ.KO {σ:List Row} {e:θ} {j:Nat} {cs:List θ} (hle:j+cs.length≤e.cells.length) (dA:∀c∈cs,θ.a0 σ c=true):(e.rm j cs).cells=e.cells.take j++cs++e.cells.drop (j+cs.length):=by
 by_cases he:∃l,e=.aU l
 ·obtain⟨l,rfl⟩:=he;rfl
 ·have R:e.cells=[e]:=by cases e<;>first|rfl|exact absurd ⟨_,rfl⟩ he
  rw[R] at hle ⊢;cases cs with
  | nil=>
   have:e.rm j []=e:=by cases e<;>cases j<;>first|rfl|exact absurd ⟨_,rfl⟩ he
   rw[this,R]
   match j with
   | 0=>rfl
   | j+1=>simp
  | cons c cs=>
   simp at hle;have ε:j=0:=by omega
   have hy:cs=[]:=by cases cs<;>simp at hle ⊢;omega
   subst ε;subst hy;have:e.rm 0 [c]=c:=by cases e<;>first|rfl|exact absurd ⟨_,rfl⟩ he
   rw[this,θ.FC (dA c (by simp))];simp
section
variable {P:Program} {T:a7} {S:aA} {B:aN} {H:ψ} {σ:List Row}
theorem aj.yB {a:θ} {v:Value} (h:aj S B σ a v) (Β:a.a0 σ=true):One v:=by
 cases h with
 | z v=>cases v<;>first|trivial|cases Β
 | ja v R γ=>
  simp only[θ.a0,R] at Β;split at Β
  ·rename_i e;cases e;simp only[Row.gN] at γ;simp at Β;omega
  ·cases Β
 | iC v R γ=>
  simp only[θ.a0,R] at Β;split at Β
  ·rename_i e;cases e;simp only[Row.gN] at γ;simp at Β;omega
  ·cases Β
 | kT v R=>simp[θ.a0,R] at Β
 | mw v R=>simp[θ.a0,R] at Β
 | aU|bt|cp=>cases Β
 | _=>trivial
theorem One.cells {v:Value} (h:One v):v.cells=#[v]:=by cases v<;>first|rfl|exact h.elim
theorem aj.cells {a:θ} {v:Value} (h:aj S B σ a v) (μ:a.cells.all (θ.a0 σ)=true):v.cells.size=a.cells.length∧∀(j:Nat) (c:θ),a.cells[j]?=some c→∃x,v.cells[j]?=some x∧aj S B σ c x∧One x:=by
 have single:a.cells=[a]→v.cells.size=a.cells.length∧∀(j:Nat) (c:θ),a.cells[j]?=some c→∃x,v.cells[j]?=some x∧aj S B σ c x∧One x:=fun e=>by
  rw[e] at μ ⊢;simp at μ;have Β:=h.yB μ;rw[Β.cells];refine⟨rfl,fun j c ε=>?_⟩
  match j with
  | 0=>simp at ε;subst ε;exact⟨v,rfl,h,Β⟩
  | j+1=>simp at ε
 cases h with
 | aU vs R γ=>
  refine⟨R.symm,fun j c ε=>?_⟩;have aE:j<vs.size:=by rw[←R];exact(b3.1 ε).1
  have hv:vs[j]?=some vs[j]:=eY aE
  have κ:=γ j c _ ε hv;exact⟨_,hv,κ,κ.yB (List.all_eq_true.1 μ c (cl ε))⟩
 | _=>exact single rfl
theorem Bw (Α:Holds S B σ H) {id k:Nat} {t:TypeId} {l:List θ} (h:σ[id]?=some (.cells t k l)):∀(j:Nat) left cur,σ[j]?≠some (Row.iter id left cur):=fun j left cur ε=>by
 obtain⟨bo,hb⟩:=KG Α ε;obtain⟨_,_,_,_,_,_,_,_,_,⟨es,γ⟩,_⟩:=Α.row j _ bo ε hb;rw[h] at γ;cases γ
theorem KP {i eo k bC lo hi:Nat} (ε:bC<k) (n8:hi≤k) (h:eo≠i):¬(i*k+lo≤eo*k+bC∧eo*k+bC<i*k+hi):=by
 rintro⟨R,γ⟩;rcases Nat.lt_or_gt_of_ne h with h|h
 ·have:(eo+1)*k≤i*k:=Nat.mul_le_mul_right k h;rw[Nat.add_mul] at this;omega
 ·have:(i+1)*k≤eo*k:=Nat.mul_le_mul_right k h;rw[Nat.add_mul] at this;omega
def v7 (P:Program) (s:Sem Unit) (S:aA) (B:aN) (H:ψ) (σ:List Row) (r:cT):Prop:=
 ∀K:θ→List Row→Prop,r.holds K→ς P s H (fun _ H'=>h9 S B H σ K undef H') (fun _ _=>False)
theorem v7.next {s:Sem Unit} {r:cT} (h:v7 P s S B H σ r):Does P (do s;pure .skip) S B H σ r:=fun K I=>
 ς.bind' (ς.mono (fun _ G hb=>ς.pure' ⟨undef,rfl,hb⟩) (fun _ _ h=>h) _ (h K I))
theorem v7.bad {s:Sem Unit}:v7 P s S B H σ .bad:=fun K I=>I.elim
theorem Sn (Α:Holds S B σ H) {id k i j b N:Nat} {t:TypeId} {l:List θ} {e a:θ} {v:Value} (ω:σ[id]?=some (.cells t k l)) (hb:B[id]?=some (some (b,N))) (he:l[i]?=some e) (μ:aj S B σ a v) (dA:a.cells.all (θ.a0 σ)=true)
  (ε:j+a.cells.length≤k) :
  (∀x∈v.cells.toList,One x)∧(∀x,x<a.cells.length→H.owns b (i*k+j+x))∧H.row b=some (t,N)∧
  (let σ':=σ.set id (.cells t k (l.set i (e.rm j a.cells)));Holds S (B.set id (some (b,N))) σ' (H.gZ b (i*k+j) v.cells.toList)∧Ext S B H S (B.set id (some (b,N))) (H.gZ b (i*k+j) v.cells.toList)∧b0 S S B (B.set id (some (b,N))) σ σ'):=by
 obtain⟨cd,hy⟩:=μ.cells dA;have hlen:v.cells.toList.length=a.cells.length:=by simpa using cd
 obtain⟨bH,cm,fF,w,hw⟩:=Α.row id _ _ ω hb;have h':i<l.length:=(b3.1 he).1;have uq:(i+1)*k≤N:=Nat.le_trans (Nat.mul_le_mul_right k h') cm;have eρ:i*k+k≤N:=by rw[Nat.add_mul] at uq;omega
 have FD:=(hw i e he).1
 have FE:∀c∈a.cells,θ.a0 σ c=true:=List.all_eq_true.1 dA
 have bQ:=θ.KO (σ:=σ) (e:=e) (j:=j) (cs:=a.cells) (by rw[FD];exact ε) FE;refine⟨fun x δ=>?_,fun x δ=>?_,bH,?_⟩
 ·obtain⟨y,Ο⟩:=List.getElem?_of_mem δ;have aE:y<a.cells.length:=by rw[←hlen];exact(b3.1 Ο).1
  obtain⟨cZ,R,_,γ⟩:=hy y _ (bc aE);rw[Array.getElem?_toList] at Ο;rw[Ο] at R;cases R;exact γ
 ·obtain⟨u,hu⟩:=fF (i*k+j+x) (by omega);exact⟨u,hu⟩
 ·refine Α.vZ (r':=.cells t k (l.set i (e.rm j a.cells))) (bo':=some (b,N)) ω trivial hb (.inl ⟨_,rfl,by simp,rfl⟩) (fun Φ eJ aH=>.inl ⟨eJ,aH⟩) (fun Φ R _=>?_) ψ.Fx (Bw Α ω) (fun j3=>?_)
  ·have bu:Φ≠b:=fun aH=>by subst aH;exact R N rfl
   exact⟨fun o=>by simp[ψ.gZ,bu],rfl,rfl⟩
  ·refine⟨bH,by simpa using cm,fun o Β=>?_,fun eo bC=>if eo=i∧j≤bC∧bC<j+a.cells.length then(v.cells[bC-j]?).getD undef else w eo bC,fun eo aH a2=>?_⟩
   ·simp only[ψ.gZ];split
    ·exact⟨_,rfl⟩
    ·exact fF o Β
   ·by_cases sK:eo=i
    ·subst sK;rw[List.getElem?_set_self h'] at a2;cases a2;rw[bQ];refine⟨by simp;omega,fun bC c η=>?_⟩;by_cases bb:j≤bC∧bC<j+a.cells.length
     ·have aZ:a.cells[bC-j]?=some c:=by
       rw[List.append_assoc,hr (by simp;omega)] at η;simp only[List.length_take] at η;rw[dU (by omega)] at η;have:bC-min j e.cells.length=bC-j:=by omega
       rw[this] at η;exact η
      obtain⟨x,R,γ,ο⟩:=hy _ _ aZ;simp only[bb,and_self,if_true,R,Option.getD_some];refine⟨?_,γ.later j3,ο⟩;simp only[ψ.gZ,hlen];rw[if_pos ⟨trivial,by omega,by omega⟩];have:eo*k+bC-(eo*k+j)=bC-j:=by omega
      rw[this,Array.getElem?_toList,R];rfl
     ·have aZ:e.cells[bC]?=some c:=by
       by_cases kg:bC<j
       ·rw[List.append_assoc,dU (by simp;omega),List.getElem?_take_of_lt kg] at η;exact η
       ·rw[hr (by simp;omega)] at η;rw[List.getElem?_drop] at η;have:j+a.cells.length+(bC-(e.cells.take j++a.cells).length)=bC:=by simp;omega
        rw[this] at η;exact η
      simp only[bb,and_false,if_false];obtain⟨R,γ,ο⟩:=(hw eo e he).2 bC c aZ;refine⟨?_,γ.later j3,ο⟩;simp only[ψ.gZ,hlen];rw[if_neg (fun x=>bb ⟨by omega,by omega⟩)];exact R
    ·rw[List.getElem?_set_ne (Ne.symm sK)] at a2;obtain⟨R,γ⟩:=hw eo aH a2;refine⟨R,fun bC c η=>?_⟩;obtain⟨ο,Ι,ay⟩:=γ bC c η;have n9:bC<k:=by rw[←R];exact(b3.1 η).1
     simp only[sK,false_and,if_false];refine⟨?_,Ι.later j3,ay⟩;simp only[ψ.gZ,hlen];rw[if_neg (fun x=>KP (lo:=j) (hi:=j+a.cells.length) n9 ε sK ⟨x.2.1,by omega⟩)];exact ο
def Bx (T:a7) (ty:TypeId) (σ:List Row) (p a:θ):cT:=match p with
 | .ag id n i j=>match T ty,σ[id]? with
  | some j7,some (.cells t k l)=>match l[i]? with
   | some e=>if l.length=n∧a.cells.length=j7.size∧j+j7.size≤k∧a.cells.all (θ.a0 σ)=true then .ok .cp (σ.set id (.cells t k (l.set i (e.rm j a.cells)))) else .bad
   | none=>.bad
  | _,_=>.bad
 | _=>.bad
theorem So (Ζ:bN P T) (Α:Holds S B σ H) {ty:TypeId} {p a:θ} {u v:Value} (χ:aj S B σ p u) (μ:aj S B σ a v):v7 P (Instr.storeAt ty u v) S B H σ (Bx T ty σ p a):=by
 unfold Bx;split
 ·rename_i id n i j;split
  ·rename_i j7 t k l hi ω;split
   ·rename_i e he;split
    ·rename_i η;obtain⟨Η,cd,n9,dA⟩:=η;cases χ with
     | ag R γ ο=>
      rename_i b N;rw[ω] at R;cases R;intro K I;obtain⟨c1,c2,c3,c4⟩:=Sn Α ω ο he μ dA (by omega:j+a.cells.length≤k);obtain⟨FF,_⟩:=μ.cells dA;refine ς.bind' (ς.pure' ?_);unfold storeVar;refine ς.bind' (Ζ.size hi ?_);rw[if_neg (by omega)];refine ς.storeCells (G:=H) rfl ⟨t,N,c3⟩ v.cells.toList 0 H c1 (fun x _ δ=>c2 x (by simp at δ;omega)) rfl ?_;exact⟨S,_,_,.cp,I,c4.2.1,c4.1,c4.2.2,.cp _⟩
     | ja v R γ=>rw[ω] at R;cases R;simp only[Row.gN] at γ;omega
    ·exact .bad
   ·exact .bad
  ·exact .bad
 ·exact .bad
end
section
variable {P:Program} {T:a7} {S:aA} {B:aN} {H:ψ} {σ:List Row}
def fw (S:aA) (B:aN) (σ:List Row) (c:Array Value) (k:Nat) (l:List θ):Prop:=
 l.length*k≤c.size∧∀(i:Nat) (e:θ),l[i]?=some e→e.cells.length=k∧∀(j:Nat) (a:θ),e.cells[j]?=some a→∃x,c[i*k+j]?=some x∧aj S B σ a x∧One x
theorem By {a:θ} (h:a.a0 []=true):a.a0 σ=true:=by
 cases a<;>first|exact h|(simp[θ.a0] at h)
theorem v8 {l:List θ} (h:l.all (θ.a0 [])=true):l.all (θ.a0 σ)=true:=by
 rw[List.all_eq_true] at *;exact fun a μ=>By (h a μ)
theorem fw.put {c:Array Value} {k:Nat} {l:List θ} (h:fw S B σ c k l) {i j:Nat} {e a:θ} {v:Value} (he:l[i]?=some e) (μ:aj S B σ a v) (dA:a.cells.all (θ.a0 σ)=true) (ε:j+a.cells.length≤k) :
  let c':=v.cells.zipIdx.foldl (fun cs (x:Value×Nat)=>cs.setIfInBounds (i*k+j+x.2) x.1) c
  c'.size=c.size∧fw S B σ c' k (l.set i (e.rm j a.cells)):=by
 obtain⟨cd,hy⟩:=μ.cells dA;have h':i<l.length:=(b3.1 he).1;have FD:=(h.2 i e he).1;have FE:∀c∈a.cells,θ.a0 σ c=true:=List.all_eq_true.1 dA;have bQ:=θ.KO (σ:=σ) (e:=e) (j:=j) (cs:=a.cells) (by rw[FD];exact ε) FE;have key:∀(vs:List Value) (n:Nat) (c:Array Value),((vs.zipIdx n).foldl (fun cs (x:Value×Nat)=>cs.setIfInBounds (i*k+j+x.2) x.1) c).size=c.size∧
   ∀p,((vs.zipIdx n).foldl (fun cs (x:Value×Nat)=>cs.setIfInBounds (i*k+j+x.2) x.1) c)[p]?=if i*k+j+n≤p∧p<i*k+j+n+vs.length∧p<c.size then vs[p-(i*k+j+n)]? else c[p]?:=by
  intro vs
  induction vs with
  | nil=>intro n c;refine⟨rfl,fun p=>?_⟩;rw[if_neg (by simp;omega)];rfl
  | cons v vs Γ=>
   intro n c;obtain⟨R,γ⟩:=Γ (n+1) (c.setIfInBounds (i*k+j+n) v);simp only[List.zipIdx_cons,List.foldl_cons];refine⟨by rw[R];simp,fun p=>?_⟩;rw[γ p];simp only[Array.size_setIfInBounds,List.length_cons];by_cases χ:p=i*k+j+n
   ·subst χ;rw[if_neg (by omega)];by_cases aE:i*k+j+n<c.size
    ·rw[if_pos ⟨by omega,by omega,aE⟩,Array.getElem?_setIfInBounds_self_of_lt aE];simp
    ·rw[if_neg (by omega),Array.getElem?_eq_none (by simp;omega),Array.getElem?_eq_none (by omega)]
   ·by_cases bb:i*k+j+(n+1)≤p∧p<i*k+j+(n+1)+vs.length∧p<c.size
    ·rw[if_pos bb,if_pos ⟨by omega,by omega,bb.2.2⟩];have:p-(i*k+j+n)=(p-(i*k+j+(n+1)))+1:=by omega
     rw[this,List.getElem?_cons_succ]
    ·rw[if_neg bb,if_neg (by omega),Array.getElem?_setIfInBounds_ne (Ne.symm χ)]
 obtain⟨k1,cx⟩:=key v.cells.toList 0 c;have cA:v.cells.zipIdx.foldl (fun cs (x:Value×Nat)=>cs.setIfInBounds (i*k+j+x.2) x.1) c=(v.cells.toList.zipIdx 0).foldl (fun cs (x:Value×Nat)=>cs.setIfInBounds (i*k+j+x.2) x.1) c:=by
  rw[←Array.foldl_toList];simp
 intro c';have aZ:c'=(v.cells.toList.zipIdx 0).foldl (fun cs (x:Value×Nat)=>cs.setIfInBounds (i*k+j+x.2) x.1) c:=cA;rw[aZ];have hlen:v.cells.toList.length=a.cells.length:=by simpa using cd
 have uq:i*k+k≤c.size:=by
  have R:(i+1)*k≤l.length*k:=Nat.mul_le_mul_right k h'
  have γ:=h.1;rw[Nat.add_mul] at R;omega
 refine⟨k1,by rw[k1];simpa using h.1,fun eo aH a2=>?_⟩;by_cases sK:eo=i
 ·subst sK;rw[List.getElem?_set_self h'] at a2;cases a2;rw[bQ];refine⟨by simp;omega,fun bC c2 η=>?_⟩;rw[cx,hlen];by_cases bb:j≤bC∧bC<j+a.cells.length
  ·have FG:a.cells[bC-j]?=some c2:=by
    rw[List.append_assoc,hr (by simp;omega)] at η;simp only[List.length_take] at η;rw[dU (by omega)] at η;have:bC-min j e.cells.length=bC-j:=by omega
    rw[this] at η;exact η
   obtain⟨x,R,γ,ο⟩:=hy _ _ FG;rw[if_pos ⟨by omega,by omega,by omega⟩];have:eo*k+bC-(eo*k+j+0)=bC-j:=by omega
   rw[this,Array.getElem?_toList];exact⟨x,R,γ,ο⟩
  ·have FG:e.cells[bC]?=some c2:=by
    by_cases kg:bC<j
    ·rw[List.append_assoc,dU (by simp;omega),List.getElem?_take_of_lt kg] at η;exact η
    ·rw[hr (by simp;omega)] at η;rw[List.getElem?_drop] at η;have:j+a.cells.length+(bC-(e.cells.take j++a.cells).length)=bC:=by simp;omega
     rw[this] at η;exact η
   rw[if_neg (fun x=>bb ⟨by omega,by omega⟩)];exact(h.2 eo e he).2 bC c2 FG
 ·rw[List.getElem?_set_ne (Ne.symm sK)] at a2;obtain⟨R,γ⟩:=h.2 eo aH a2;refine⟨R,fun bC c2 η=>?_⟩;have n9:bC<k:=by rw[←R];exact(b3.1 η).1
  rw[cx,hlen,if_neg (fun x=>KP (lo:=j) (hi:=j+a.cells.length) n9 ε sK ⟨by omega,by omega⟩)];exact γ bC c2 η
theorem fw.KQ {z:Value} {a:θ} (μ:aj S B σ a z) (dA:a.cells.all (θ.a0 σ)=true) {k n m:Nat} (υ:a.cells.length=k) (hm:n*k≤m) (fI:Array Value) (Ν:fI=z.cells) :
  fw S B σ ((Array.range m).map (fI[· % fI.size]!)) k (List.replicate n a):=by
 obtain⟨cd,hy⟩:=μ.cells dA;subst Ν;refine⟨by simpa using hm,fun i e hi=>?_⟩;obtain⟨R,γ⟩:=b3.1 hi;simp at R γ;subst γ;refine⟨υ,fun j c η=>?_⟩;obtain⟨x,Ε,Δ,a4⟩:=hy j c η;have ε:j<k:=by rw[←υ];exact(b3.1 η).1
 have aE:i*k+j<m:=by
  have:(i+1)*k≤n*k:=Nat.mul_le_mul_right k R;rw[Nat.add_mul] at this;omega
 refine⟨x,?_,Δ,a4⟩;rw[Array.getElem?_map,Array.getElem?_range,if_pos aE];simp only[Option.map_some];have:(i*k+j) % z.cells.size=j:=by
  rw[cd,υ,Nat.mul_comm,Nat.mul_add_mod];exact Nat.mod_eq_of_lt ε
 rw[this];have bh:j<z.cells.size:=by omega
 rw[eY bh] at Ε;cases Ε;rw[getElem!_pos z.cells j bh]
theorem fw.later {au:aA} {B':aN} {σ':List Row} (ω:b0 S au B B' σ σ') {c:Array Value} {k:Nat} {l:List θ} (h:fw S B σ c k l):fw au B' σ' c k l:=
 ⟨h.1,fun i e hi=>⟨(h.2 i e hi).1,fun j a ε=>by obtain⟨x,R,γ,ο⟩:=(h.2 i e hi).2 j a ε;exact⟨x,R,γ.later ω,ο⟩⟩⟩
theorem fw.one {a:θ} {v:Value} (μ:aj S B σ a v) (dA:a.cells.all (θ.a0 σ)=true):fw S B σ v.cells a.cells.length [a]:=by
 obtain⟨cd,hy⟩:=μ.cells dA;refine⟨by simp[cd],fun i e hi=>?_⟩
 match i with
 | 0=>
  simp at hi;subst hi;refine⟨rfl,fun j c η=>?_⟩;rw[Nat.zero_mul,Nat.zero_add];exact hy j c η
 | i+1=>simp at hi
theorem yC (Α:Holds S B σ H) {c:Array Value} {k:Nat} {l:List θ} (η:fw S B σ c k l) (t:TypeId) {K:Nat→ψ→Prop} {E:Value→ψ→Prop}
  (h:∀r,H.fresh r→Holds S (B++[some (r,c.size)]) (σ++[.cells t k l]) (H.dn r c t)→Ext S B H S (B++[some (r,c.size)]) (H.dn r c t)→b0 S S B (B++[some (r,c.size)]) σ (σ++[.cells t k l])→K r (H.dn r c t)) :
  ς P (newObj (.cells c t)) H K E:=by
 refine⟨rfl,fun r κ=>?_⟩;have cg:∀b,(∀N,some (r,c.size)≠some (b,N))→jR H (H.dn r c t) b:=fun b hb=>by
  have bu:b≠r:=fun e=>by subst e;exact hb _ rfl
  exact⟨fun o=>by simp[ψ.dn,bu],by simp[ψ.dn,bu],rfl⟩
 have bH:b0 S S B (B++[some (r,c.size)]) σ (σ++[.cells t k l])→jb S (B++[some (r,c.size)]) (σ++[.cells t k l]) (H.dn r c t) (.cells t k l) (some (r,c.size)):=fun ω=>by
  have aZ:=η.later ω;refine⟨by simp[ψ.dn],η.1,fun o Β=>⟨c[o],by simp[ψ.dn,Β]⟩,fun i j=>(c[i*k+j]?).getD undef,fun i e hi=>⟨(aZ.2 i e hi).1,fun j a ε=>?_⟩⟩;obtain⟨x,Ε,Δ,a4⟩:=(aZ.2 i e hi).2 j a ε;simp only[Ε,Option.getD_some];exact⟨by simp[ψ.dn,Ε],Δ,a4⟩
 obtain⟨R,γ,ο⟩:=Α.push (fun b N e=>by cases e;exact κ) cg bH;exact h r κ R γ ο
theorem yD (Α:Holds S B σ H) (c:Array Value) (t:TypeId) {K:Nat→ψ→Prop} {E:Value→ψ→Prop}
  (h:∀r,Holds (S.lay r c) B σ (H.dn r c t)→Ext S B H (S.lay r c) B (H.dn r c t)→b0 S (S.lay r c) B B σ σ→K r (H.dn r c t)) :
  ς P (newObj (.cells c t)) H K E:=by
 refine⟨rfl,fun r κ=>?_⟩;obtain⟨R,γ,ο⟩:=Α.lay (c:=c) (t:=t) κ;exact h r R γ ο
theorem KR {r:Nat} {c:Array Value} {a:θ} {k:Nat} (ω:b0 S (S.lay r c) B B σ σ) (η:fw S B σ c k [a]):aj (S.lay r c) B σ (.aa a.cells) (.pointer (some ⟨r,0,none⟩)):=by
 have aZ:=η.later ω;refine .aa r 0 (fun j=>(c[j]?).getD undef) (fun j x ε=>?_) (fun j x ε=>?_)
 ·obtain⟨y,Ε,_⟩:=(aZ.2 0 a rfl).2 j x ε;rw[Nat.zero_mul,Nat.zero_add] at Ε;simp[aA.lay,Ε]
 ·obtain⟨y,Ε,Δ,_⟩:=(aZ.2 0 a rfl).2 j x ε;rw[Nat.zero_mul,Nat.zero_add] at Ε;simp only[Ε,Option.getD_some];exact Δ
theorem Bz {r:Nat} {c:Array Value} {k cap:Nat} {l:List θ} (ex:Bool) (ω:b0 S (S.lay r c) B B σ σ) (η:fw S B σ c k l) (v9:l.length≤cap) (hex:ex=true→cap=l.length):aj (S.lay r c) B σ (.sl ex k l) (.slice (some ⟨r,0,none⟩) l.length cap):=by
 have aZ:=η.later ω;refine .sl r 0 cap (fun i j=>(c[i*k+j]?).getD undef) hex v9 (fun i e hi=>(aZ.2 i e hi).1) (fun i e hi j x ε=>?_) (fun i e hi j x ε=>?_)
 ·obtain⟨y,Ε,_⟩:=(aZ.2 i e hi).2 j x ε;simp[aA.lay,Ε]
 ·obtain⟨y,Ε,Δ,_⟩:=(aZ.2 i e hi).2 j x ε;simp only[Ε,Option.getD_some];exact Δ
end
end Go.TL
